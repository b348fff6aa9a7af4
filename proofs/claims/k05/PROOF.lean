import PyProof.Rows.All
import Wide.All
import OpenK.AllK
import Wide.FinOn
import KE.KStateDown
import HandS.ForMost
import HandS.ForExc
import HandS.Defaults
import HandS.Star
import HandS.Property
import HandS.StrMore
import HandS.TupAny
import HandS.IsInst
import HandS.EndBits
import HandS.Wide
import HandS.Evl
import HandS.HeadEnd
import HandS.Head2
import HandS.HeadHook2
import PyProof.Draws
import PyProof.ReprLen
import PyProof.ReprRoads
import HandS.Walk
import HandS.ExcInit
import HandS.ExcIs
import KE.KExcInit
import HandS.TryOnly
import HandS.TryMany
import HandS.Lambda
import HandS.EndTab
import HandS.HeadHook4
import PyProof.InstSpecial
import HandS.ClsMeth
import HandS.Codes
import HandS.Text
import HandS.ReplaceLit
import HandS.TupMul
import PyProof.InstNe
import KE.KOpsOwn
import KE.KStar
import HandS.TupLe
import HandS.Style
import PySem.Challenge.RW_filelayer_k05_paths_as_rows
set_option Elab.async false
set_option linter.all false
set_option maxRecDepth 100000
set_option maxHeartbeats 8000000
namespace FL
open PySem PySem.Spec PyProof.Rows L2

/-! ### room, with the guards told -/
structure Rm (gd : Bool) (k : Nat) (A : Around) : Prop where
  r : Room k A
  g : gd = true → A.guards = some []
theorem Rm.mono {gd : Bool} {j k : Nat} {A : Around} (r : Rm gd k A) (h : j ≤ k) : Rm gd j A := ⟨r.r.mono h, r.g⟩
theorem guards_deeper {A : Around} {env : Env} (h : A.guards = some []) : (A.deeper env).guards = some [] := by
  first | exact h | (simp [Around.deeper, h])
theorem Rm.deeper {gd : Bool} {k : Nat} {A : Around} (r : Rm gd (k + 1) A) (env : Env) : Rm gd k (A.deeper env) := ⟨r.r.deeper env, fun e => guards_deeper (r.g e)⟩
theorem Rm.in1 {gd : Bool} {k : Nat} {A : Around} (r : Rm gd (k + 1) A) : Rm gd k A.in1 := ⟨r.r.in1, r.g⟩
theorem guards_make {A : Around} {C : Addr} {us : List Value} {kw : List (Str × Value)} (h : A.guards = some []) : (A.under (.builtin "type.__call__" ⟨.ref C :: us, kw⟩)).guards = some [] := by
  first | exact h | (simp [Around.under, Code.weight, Code.isCreation, Code.isGuard, Code.isCaller, Code.frames, Code.isFrame, guardIds, Code.guards, pushGuards, h])
theorem Rm.make {gd : Bool} {k : Nat} {A : Around} (r : Rm gd (k + 1) A) (C : Addr) (us : List Value) (kw : List (Str × Value)) : Rm gd k (A.under (.builtin "type.__call__" ⟨.ref C :: us, kw⟩)) := ⟨r.r.make C us kw, fun e => guards_make (r.g e)⟩

/-! ### the promise of a def: positional values vs, then the values zs of the keywords ks -/
def Fn (gd : Bool) (P : Program) (w : World) (K : PySem.W.Frag) (mg : Str → Option Value) (base : Heap) (k : Nat) (f : Addr) (ks : List Str) (sp : Sp) : Prop :=
  ∀ (A : Around) (outer : List Env) (s : Shared) (H : Hp) (us ws : List Value) (vs zs : List V) (Q : VK) (E : XK), Rm gd k A → Env0 P w K mg base A outer s H → Vals vs us → Vals zs ws → zs.length = ks.length → sp (vs ++ zs) H Q E →
    codeAny (model P w) A (.call (.ref f) ⟨us, ks.zip ws⟩) (CR (L2.CX P w) outer P w H s Q E) s
section
variable {gd : Bool} {P : Program} {w : World} {K : PySem.W.Frag} {mg : Str → Option Value} {base : Heap} {j k : Nat} {f : Addr} {ks : List Str} {sp sp' : Sp}
theorem Fn.mono (F : Fn gd P w K mg base j f ks sp) (h : j ≤ k) : Fn gd P w K mg base k f ks sp := fun A outer s H us ws vs zs Q E hr => F A outer s H us ws vs zs Q E (hr.mono h)
theorem Fn.imp (F : Fn gd P w K mg base k f ks sp) (h : ∀ vs H Q E, sp' vs H Q E → sp vs H Q E) : Fn gd P w K mg base k f ks sp' := fun A outer s H us ws vs zs Q E hr e0 r rz l hs => F A outer s H us ws vs zs Q E hr e0 r rz l (h _ _ _ _ hs)
end

section
variable {gd : Bool} {P : Program} {w : World} {K : PySem.W.Frag} {mg : Str → Option Value} {base : Heap} {k : Nat} {f : Addr} {x qual : Str} {params : Arguments} {body : List Stmt} {scope : Scope} {dvs : List V} {kws : List (Str × V)} {fd : FuncData} {N ps ks : List Str} {sp sp2 : Sp}
/-- THE RULE for a def: how it binds, then its body -/
theorem fn_bnd (F : FunD K x qual params body scope dvs kws f fd) (S : FnScope N ps scope)
    (hb : ∀ (A : Around) (outer : List Env) (s : Shared) (H : Hp) (us ws : List Value) (vs zs : List V) (Q : VK) (E : XK), Env0 P w K mg base A outer s H → Vals vs us → Vals zs ws → zs.length = ks.length → sp (vs ++ zs) H Q E →
      StX.Bnd (L2.CX P w) P w K mg base fd ⟨us, ks.zip ws⟩ ps A outer s H E (fun xs H2 => sp2 xs H2 Q E))
    (hbody : ∀ (cdv : Value) (A : Around) (outer : List Env) (s : Shared) (H : Hp) (vs : List V) (Q : VK) (E : XK), Rm gd k (A.deeper (envOfC qual scope s.heap.objs.size f cdv)) → sp2 vs H Q E →
      ∃ t, PSs (cxOf (L2.CX P w) P w K mg base N qual scope f cdv A outer s H E) body t ∧ t { nx := fun _ H' => Q .non H', rt := Q } (start N vs) H) : Fn gd P w K mg base (k + 1) f ks sp := by
  intro A outer s H us ws vs zs Q E hr e0 r rz l hs
  obtain ⟨oc, od, dV, kV, doc, pm, an, cdv, ct, osl, e, lk, hcd, _, _⟩ := F.ex
  have B := hb A outer s H us ws vs zs Q E e0 r rz l hs
  subst e
  exact StX.run_bnd lk hcd S hr.r e0 B fun s2 H2 xs g hr2 => hbody cdv A outer s2 H2 xs Q E ⟨hr2, fun e => guards_deeper (hr.g e)⟩ g
/-- plain positional parameters; the defaults ds fill up -/
theorem fn_pos {ds : List Value} {dv : List V} (F : FunD K x qual params body scope dvs kws f fd) (S : FnScope N ps scope) (len : ∀ vs H Q E, sp2 vs H Q E → vs.length = ps.length) (hb : Binds K fd ps ds) (hd : Vals dv ds)
    (hbody : ∀ (cdv : Value) (A : Around) (outer : List Env) (s : Shared) (H : Hp) (vs : List V) (Q : VK) (E : XK), Rm gd k (A.deeper (envOfC qual scope s.heap.objs.size f cdv)) → sp2 vs H Q E →
      ∃ t, PSs (cxOf (L2.CX P w) P w K mg base N qual scope f cdv A outer s H E) body t ∧ t { nx := fun _ H' => Q .non H', rt := Q } (start N vs) H) : Fn gd P w K mg base (k + 1) f [] (fun vs H Q E => sp2 (vs ++ dv) H Q E) := by
  refine fn_bnd (ks := []) F S (fun A outer s H us ws vs zs Q E e0 r rz l hs A' Ex Q' h => ?_) hbody
  have ez : zs = [] := List.length_eq_zero_iff.mp l
  subst ez
  cases rz
  rw [List.append_nil] at hs
  have r2 : Vals (vs ++ dv) (us ++ ds) := r.append hd
  have hl := len _ _ _ _ hs
  have hu : (us ++ ds).length = ps.length := by rw [← r2.length]; exact hl
  exact hb s us (e0.mod.kin.keeps fun b o e => (e0.bs b o e).1) hu _ _ _ _ (h s H (vs ++ dv) (us ++ ds) e0 Un.refl rfl (fun _ _ z => z) r2 hl hs)
theorem fn_all (F : FunD K x qual params body scope dvs kws f fd) (S : FnScope N ps scope) (len : ∀ vs H Q E, sp vs H Q E → vs.length = ps.length) (hb : Binds K fd ps [])
    (hbody : ∀ (cdv : Value) (A : Around) (outer : List Env) (s : Shared) (H : Hp) (vs : List V) (Q : VK) (E : XK), Rm gd k (A.deeper (envOfC qual scope s.heap.objs.size f cdv)) → sp vs H Q E →
      ∃ t, PSs (cxOf (L2.CX P w) P w K mg base N qual scope f cdv A outer s H E) body t ∧ t { nx := fun _ H' => Q .non H', rt := Q } (start N vs) H) : Fn gd P w K mg base (k + 1) f [] sp := by
  have z := fn_pos (dv := []) F S len hb .nil hbody
  simp only [List.append_nil] at z
  exact z
/-- keywords -/
theorem fn_key {n : Nat} {g : List Value → List Value → List Value} {gV : List V → List V → List V} (F : FunD K x qual params body scope dvs kws f fd) (S : FnScope N ps scope) (len : ∀ vs H Q E, sp2 vs H Q E → vs.length = ps.length) (hb : KBn K fd ps n ks g gV)
    (hbody : ∀ (cdv : Value) (A : Around) (outer : List Env) (s : Shared) (H : Hp) (vs : List V) (Q : VK) (E : XK), Rm gd k (A.deeper (envOfC qual scope s.heap.objs.size f cdv)) → sp2 vs H Q E →
      ∃ t, PSs (cxOf (L2.CX P w) P w K mg base N qual scope f cdv A outer s H E) body t ∧ t { nx := fun _ H' => Q .non H', rt := Q } (start N vs) H) :
    Fn gd P w K mg base (k + 1) f ks (fun xs H Q E => ∃ vs zs, xs = vs ++ zs ∧ vs.length = n ∧ zs.length = ks.length ∧ sp2 (gV vs zs) H Q E) := by
  refine fn_bnd F S (fun A outer s H us ws vs zs Q E e0 r rz l hs A' Ex Q' h => ?_) hbody
  obtain ⟨vs', zs', e, l1, l2, hs⟩ := hs
  obtain ⟨e1, e2⟩ := List.append_inj' e (l.trans l2.symm)
  subst e1 e2
  have r2 := hb.rel r rz
  have hl := len _ _ _ _ hs
  exact hb.to s us ws (e0.mod.kin.keeps fun b o e => (e0.bs b o e).1) (r.length.symm.trans l1) (rz.length.symm.trans l2) _ _ _ _ (h s H _ _ e0 Un.refl rfl (fun _ _ z => z) r2 hl hs)
/-- def f(a, .., *v) -/
theorem fn_var {pv : Str} (F : FunD K x qual params body scope dvs kws f fd) (S : FnScope N (ps ++ [pv]) scope)
    (hb : ∀ us rest : List Value, us.length = ps.length → bindArgs fd ⟨us ++ rest, []⟩ = (newTuple rest >>= fun t => pure (ps.zip us ++ [(pv, t)])))
    (hbody : ∀ (cdv : Value) (A : Around) (outer : List Env) (s : Shared) (H : Hp) (vs : List V) (Q : VK) (E : XK), Rm gd k (A.deeper (envOfC qual scope s.heap.objs.size f cdv)) → sp vs H Q E →
      ∃ t, PSs (cxOf (L2.CX P w) P w K mg base N qual scope f cdv A outer s H E) body t ∧ t { nx := fun _ H' => Q .non H', rt := Q } (start N vs) H) :
    Fn gd P w K mg base (k + 1) f [] (fun vs H Q E => ∃ ws rest, vs = ws ++ rest ∧ ws.length = ps.length ∧ rest.length ≤ sizeLine ∧ ∀ p, H p = Option.none → sp (ws ++ [V.ref p]) (upd H p (.tup rest)) Q E) := by
  intro A outer s H us ws0 vs zs Q E hr e0 r rz l hs
  have ez : zs = [] := List.length_eq_zero_iff.mp l
  subst ez
  cases rz
  rw [List.append_nil] at hs
  obtain ⟨oc, od, dV, kV, doc, pm, an, cdv, ct, osl, e, lk, hcd, _, _⟩ := F.ex
  subst e
  have hg := hr.g
  have Z : L2.FnR P w K mg base (L2.CX P w) (k + 1) f (fun vs H Q E => (∃ ws rest, vs = ws ++ rest ∧ ws.length = ps.length ∧ rest.length ≤ sizeLine ∧ ∀ p, H p = Option.none → sp (ws ++ [V.ref p]) (upd H p (.tup rest)) Q E)) → True := fun _ => trivial
  obtain ⟨ws, rest, ev, hl, hz, hq⟩ := hs
  subst ev
  obtain ⟨u1, u2, eu, r1, r2⟩ := StX.vals_split r
  subst eu
  have hn : H s.heap.objs.size = Option.none := e0.hok.fresh (Nat.le_refl _)
  have hl1 : u1.length = ps.length := by rw [← r1.length]; exact hl
  have hl2 : u2.length ≤ sizeLine := by rw [← r2.length]; exact hz
  show codeAny _ _ (.call (.ref f) ⟨u1 ++ u2, []⟩) _ _
  refine StX.run_bnd lk hcd S hr.r e0 (G := fun xs H2 => ∃ p, H p = Option.none ∧ xs = ws ++ [V.ref p] ∧ H2 = upd H p (.tup rest)) (fun A' Ex Q' h => ?_) fun s2 H2 xs ⟨p, hp, ex, eH⟩ hr' => ?_
  · rw [hb u1 u2 hl1]
    refine wpAny_bind (wpAny_newTuple (wpAny_pure ?_) hl2)
    have new : ObjOk P w (upd H s.heap.objs.size (.tup rest)) (s.heap.push ({ cls := .type "tuple", data := .seq u2.toArray } : Obj)) s.heap.objs.size (.tup rest) := ⟨hz, u2, r2, ⟨_, Heap.get?_push_size _ rfl, rfl, _, rfl⟩⟩
    have un := StX.un_laid (fs := frs outer) (s := s) (o := ({ cls := .type "tuple", data := .seq u2.toArray } : Obj)) (u := .tup rest) hn
    have z := h _ _ (ws ++ [V.ref s.heap.objs.size]) (u1 ++ [Value.ref s.heap.objs.size]) (StX.env0_laid e0 new) un rfl (fun e s' => StX.cxUp outer s H _ _ E e s' un (fun b o q => Heap.get?_push_of_some _ q) rfl) (r1.append (.cons rfl .nil))
      (by rw [List.length_append, List.length_append, hl] <;> rfl) ⟨_, hn, rfl, rfl⟩
    rw [List.zip_append hl1.symm] at z
    exact z
  · subst ex eH
    exact hbody cdv A outer s2 _ _ Q E ⟨hr', fun e => guards_deeper (hg e)⟩ (hq p hp)
end

/-! ### calls -/
/-- f(..) by its promise -/
def cCall (sp : Sp) (E : XK) (t : TA) : TE := fun σ H Q => t σ H fun vs H1 => sp vs H1 Q E
/-- f(.., k = v) -/
def cCallK (m : Nat) (sp : Sp) (E : XK) (t tk : TA) : TE := fun σ H Q => t σ H fun vs H1 => tk σ H1 fun zs H2 => zs.length = m ∧ sp (vs ++ zs) H2 Q E
/-- o.m(..) -/
def cMeth (C : Addr) (m : Str) (sp : Sp) (E : XK) (ta : TE) (t : TA) : TE := fun σ H Q => ta σ H fun x H1 => ∃ a dx fs, x = .ref a ∧ H1 a = some (.ins C dx fs) ∧ fs.lookup m = none ∧ t σ H1 fun vs H2 => sp (x :: vs) H2 Q E
def cMethK (C : Addr) (m : Str) (n : Nat) (sp : Sp) (E : XK) (ta : TE) (t tk : TA) : TE := fun σ H Q => ta σ H fun x H1 => ∃ a dx fs, x = .ref a ∧ H1 a = some (.ins C dx fs) ∧ fs.lookup m = none ∧ t σ H1 fun vs H2 => tk σ H2 fun zs H3 => zs.length = n ∧ sp (x :: (vs ++ zs)) H3 Q E
/-- C(..) -/
def cMake (C : Addr) (sp : Sp) (E : XK) (t : TA) : TE := fun σ H Q => t σ H fun vs H1 => ∀ x dx, H1 x = none → H1 dx = none → dx ≠ x →
  sp (.ref x :: vs) (upd (upd H1 dx (.own x)) x (.ins C dx [])) (fun v H2 => v = .non ∧ Q (.ref x) H2) E
def cMakeK (C : Addr) (m : Nat) (sp : Sp) (E : XK) (t tk : TA) : TE := fun σ H Q => t σ H fun vs H1 => tk σ H1 fun zs H2 => zs.length = m ∧ ∀ x dx, H2 x = none → H2 dx = none → dx ≠ x →
  sp (.ref x :: (vs ++ zs)) (upd (upd H2 dx (.own x)) x (.ins C dx [])) (fun v H3 => v = .non ∧ Q (.ref x) H3) E
section
variable {gd : Bool} {X : Cx} {k : Nat} {f C : Addr} {sp : Sp} {E : XK} {x m : Str} {p sp_ pos apos : Pos} {e o : Expr} {es : List Expr} {kws : List Keyword} {ta te : TE} {t tk : TA} {ks : List Str}
theorem run_f {pins : List (Addr × Obj)} {σ : L2.St} {H : Hp} {s : Shared} {Q : VK} {us ws : List Value} {vs zs : List V} (F : Fn gd X.prog X.w X.K X.mg X.base k f ks sp) (hr : Rm gd k X.A) (hx : Passes (L2.CX X.prog X.w) X E)
    (I : Inv X pins σ H s) (r : Vals vs us) (rz : Vals zs ws) (l : zs.length = ks.length) (h : sp (vs ++ zs) H Q E) : wpAny (model X.prog X.w) X.A (call (.ref f) us (ks.zip ws)) (EP X pins σ Q) X.xe s := by
  refine wpAny_call (codeAny_mono (F X.A X.stack s H us ws vs zs Q E hr I.env0 r rz l h) fun r s' hq => ?_)
  cases r with
  | error e => exact hx pins σ H s e s' I hq
  | ok fl =>
    cases fl with
    | ret u => exact I.after hq
    | next => exact False.elim hq
    | brk => exact False.elim hq
    | cont => exact False.elim hq
theorem run_f0 {pins : List (Addr × Obj)} {σ : L2.St} {H : Hp} {s : Shared} {Q : VK} {us : List Value} {vs : List V} (F : Fn gd X.prog X.w X.K X.mg X.base k f [] sp) (hr : Rm gd k X.A) (hx : Passes (L2.CX X.prog X.w) X E)
    (I : Inv X pins σ H s) (r : Vals vs us) (h : sp vs H Q E) : wpAny (model X.prog X.w) X.A (call (.ref f) us) (EP X pins σ Q) X.xe s :=
  run_f (ws := []) (zs := []) F hr hx I r .nil rfl (by rw [List.append_nil]; exact h)
theorem pe_fn (F : Fn gd X.prog X.w X.K X.mg X.base k f [] sp) (hr : Rm gd k X.A) (hg : Gl X x) (hm : X.mg x = some (.ref f)) (hk : PySem.W.keepIn X.K (.ref f) = true) (hx : Passes (L2.CX X.prog X.w) X E)
    (ha : PA X (e :: es) t) (hdb : (x == ("__debug__" : Str)) = false := by decide) (he : starEach (e :: es) X.env = (false, eval e X.env) :: starEach es X.env := by rfl) (hpl : (backTo pos (starEach es X.env)).any (·.1) = false := by rfl) :
    PE X (.Call (.Name x p) (e :: es) [] pos) (cCall sp E t) := by
  refine ⟨fun pins s σ H Q I h => ?_⟩
  refine wpAny_Call_Name_kw (ld_glob I hg hm ?_ hdb)
  refine PySem.W.callWith_K (h₀ := X.base) I.ok.mod.kin hk (thn (ha.run pos pins s σ H _ I h) fun us s1 ⟨vs, H1, I1, r, q⟩ => ⟨I1.kIn, ?_⟩) he hpl
  exact run_f0 F hr hx I1 r q
theorem pe_fn0 (F : Fn gd X.prog X.w X.K X.mg X.base k f [] sp) (hr : Rm gd k X.A) (hg : Gl X x) (hm : X.mg x = some (.ref f)) (hk : PySem.W.keepIn X.K (.ref f) = true) (hx : Passes (L2.CX X.prog X.w) X E)
    (hdb : (x == ("__debug__" : Str)) = false := by decide) : PE X (.Call (.Name x p) [] [] pos) (cCall sp E tNil) := by
  refine ⟨fun pins s σ H Q I h => ?_⟩
  refine wpAny_Call_Name_kw (ld_glob I hg hm ?_ hdb)
  exact PySem.W.callWith_K0 I.kIn hk (run_f0 (us := []) F hr hx I .nil h)
/-- f( *xs) -/
theorem pe_fnS (F : Fn gd X.prog X.w X.K X.mg X.base k f [] sp) (hr : Rm gd k X.A) (hg : Gl X x) (hm : X.mg x = some (.ref f)) (hk : PySem.W.keepIn X.K (.ref f) = true) (hx : Passes (L2.CX X.prog X.w) X E)
    (he : PE X e te) (hdb : (x == ("__debug__" : Str)) = false := by decide) (hst : starEach [.Starred e sp_] X.env = [(true, eval e X.env)] := by rfl) :
    PE X (.Call (.Name x p) [.Starred e sp_] [] pos) (fun σ H Q => te σ H fun y H1 => ∃ a xs, y = V.ref a ∧ (SqT X.K H1 a xs ∨ SqL X.K H1 a xs) ∧ sp xs H1 Q E) := by
  refine ⟨fun pins s σ H Q I h => ?_⟩
  refine wpAny_Call_Name_kw (ld_glob I hg hm ?_ hdb)
  refine PySem.W.callWith_S (h₀ := X.base) I.ok.mod.kin hk (thn (he.run pins s σ H _ I h) fun v s1 ⟨y, H1, I1, ry, a, xs, ey, hxs, q⟩ => ?_) hst
  subst ey
  obtain rfl : v = Value.ref a := ry
  exact StX.star_any I1 hxs fun us s2 I2 rv => ⟨I2.kIn, run_f0 F hr hx I2 rv q⟩
theorem pe_fnK (F : Fn gd X.prog X.w X.K X.mg X.base k f ks sp) (hr : Rm gd k X.A) (hg : Gl X x) (hm : X.mg x = some (.ref f)) (hk : PySem.W.keepIn X.K (.ref f) = true) (hx : Passes (L2.CX X.prog X.w) X E)
    (ha : PA X (e :: es) t) (hkw : PK X kws tk) (hall : (backToKw pos (keywordEach kws X.env)).all (·.1.isSome) = true := by rfl) (hks : (backToKw pos (keywordEach kws X.env)).filterMap (·.1) = ks := by rfl)
    (hdb : (x == ("__debug__" : Str)) = false := by decide) (he : starEach (e :: es) X.env = (false, eval e X.env) :: starEach es X.env := by rfl)
    (hpl : ((backTo pos (starEach (e :: es) X.env)).any (·.1) || (backToKw pos (keywordEach kws X.env)).any (·.1.isNone)) = false := by rfl) :
    PE X (.Call (.Name x p) (e :: es) kws pos) (cCallK ks.length sp E t tk) := by
  refine ⟨fun pins s σ H Q I h => ?_⟩
  refine wpAny_Call_Name_kw (ld_glob I hg hm ?_ hdb)
  refine PySem.W.callWith_KW (h₀ := X.base) I.ok.mod.kin hk hall (thn (ha.run pos pins s σ H _ I h) fun us s1 ⟨vs, H1, I1, r, q⟩ => ?_) hpl he
  refine thn (hkw.run pos pins s1 σ H1 _ I1 q) fun ws s2 ⟨zs, H2, I2, rz, l, q2⟩ => ⟨I2.kIn, ?_⟩
  rw [hks]
  exact run_f F hr hx I2 r rz l q2
theorem pe_fnK0 (F : Fn gd X.prog X.w X.K X.mg X.base k f ks sp) (hr : Rm gd k X.A) (hg : Gl X x) (hm : X.mg x = some (.ref f)) (hk : PySem.W.keepIn X.K (.ref f) = true) (hx : Passes (L2.CX X.prog X.w) X E)
    (hkw : PK X kws tk) (hall : (backToKw pos (keywordEach kws X.env)).all (·.1.isSome) = true := by rfl) (hks : (backToKw pos (keywordEach kws X.env)).filterMap (·.1) = ks := by rfl)
    (hdb : (x == ("__debug__" : Str)) = false := by decide) (hpl : ((backTo pos (starEach [] X.env)).any (·.1) || (backToKw pos (keywordEach kws X.env)).any (·.1.isNone)) = false := by rfl) :
    PE X (.Call (.Name x p) [] kws pos) (cCallK ks.length sp E tNil tk) := by
  refine ⟨fun pins s σ H Q I h => ?_⟩
  refine wpAny_Call_Name_kw (ld_glob I hg hm ?_ hdb)
  refine PySem.W.callWith_KW0 (h₀ := X.base) I.ok.mod.kin hk hall ?_ hpl
  refine thn (hkw.run pos pins s σ H _ I h) fun ws s2 ⟨zs, H2, I2, rz, l, q2⟩ => ⟨I2.kIn, ?_⟩
  rw [hks]
  exact run_f (us := []) (vs := []) F hr hx I2 .nil rz l q2

theorem pe_mt {pl : Sem Bool} (he : PE X o ta) (c : Cls X.K C) (hm : Meth X.K C m f) (F : Fn gd X.prog X.w X.K X.mg X.base k f [] sp) (hr : Rm gd k X.A) (hx : Passes (L2.CX X.prog X.w) X E) (ha : PA X (e :: es) t)
    (hst : starEach (e :: es) X.env = (false, eval e X.env) :: starEach es X.env := by rfl) (hpl : (backTo pos (starEach es X.env)).any (·.1) = false := by rfl)
    (ht : eval (.Call (.Attribute o m apos) (e :: es) [] pos) X.env = (do
      let ov ← eval o X.env
      standAt apos.atName
      let (f, first) ← holding [ov] (getMethod ov m pl)
      callWith pos f first (backTo pos (starEach (e :: es) X.env)) (backToKw pos (keywordEach [] X.env))) := by rfl) :
    PE X (.Call (.Attribute o m apos) (e :: es) [] pos) (cMeth C m sp E ta t) := by
  refine ⟨fun pins s σ H Q I h => ?_⟩
  refine PySem.W.methodCall_KW (pl := pl) (thn (he.run pins s σ H _ I h) fun u s1 ⟨x, H1, I1, rx, a, dx, fs, ex, ea, l, q⟩ => ?_) ht
  subst ex
  obtain rfl : u = Value.ref a := rx
  refine getmeth_ok I1 ea c hm l ?_
  refine PySem.W.callWith_K (first := [.ref a]) (h₀ := X.base) I.ok.mod.kin hm.kp (thn (ha.run pos pins s1 σ H1 _ I1 q) fun us s2 ⟨vs, H2, I2, r, q2⟩ => ⟨I2.kIn, ?_⟩) hst hpl
  exact run_f0 (us := .ref a :: us) (vs := .ref a :: vs) F hr hx I2 (.cons rfl r) q2
theorem pe_mt0 {pl : Sem Bool} (he : PE X o ta) (c : Cls X.K C) (hm : Meth X.K C m f) (F : Fn gd X.prog X.w X.K X.mg X.base k f [] sp) (hr : Rm gd k X.A) (hx : Passes (L2.CX X.prog X.w) X E)
    (ht : eval (.Call (.Attribute o m apos) [] [] pos) X.env = (do
      let ov ← eval o X.env
      standAt apos.atName
      let (f, first) ← holding [ov] (getMethod ov m pl)
      callWith pos f first (backTo pos (starEach [] X.env)) (backToKw pos (keywordEach [] X.env))) := by rfl) :
    PE X (.Call (.Attribute o m apos) [] [] pos) (cMeth C m sp E ta tNil) := by
  refine ⟨fun pins s σ H Q I h => ?_⟩
  refine PySem.W.methodCall_KW (pl := pl) (thn (he.run pins s σ H _ I h) fun u s1 ⟨x, H1, I1, rx, a, dx, fs, ex, ea, l, q⟩ => ?_) ht
  subst ex
  obtain rfl : u = Value.ref a := rx
  refine getmeth_ok I1 ea c hm l ?_
  exact PySem.W.callWith_K0 (first := [.ref a]) I1.kIn hm.kp (run_f0 (us := [.ref a]) (vs := [.ref a]) F hr hx I1 (.cons rfl .nil) q)
theorem pe_mtK {pl : Sem Bool} (he : PE X o ta) (c : Cls X.K C) (hm : Meth X.K C m f) (F : Fn gd X.prog X.w X.K X.mg X.base k f ks sp) (hr : Rm gd k X.A) (hx : Passes (L2.CX X.prog X.w) X E) (ha : PA X (e :: es) t) (hkw : PK X kws tk)
    (hall : (backToKw pos (keywordEach kws X.env)).all (·.1.isSome) = true := by rfl) (hks : (backToKw pos (keywordEach kws X.env)).filterMap (·.1) = ks := by rfl)
    (hst : starEach (e :: es) X.env = (false, eval e X.env) :: starEach es X.env := by rfl) (hpl : ((backTo pos (starEach (e :: es) X.env)).any (·.1) || (backToKw pos (keywordEach kws X.env)).any (·.1.isNone)) = false := by rfl)
    (ht : eval (.Call (.Attribute o m apos) (e :: es) kws pos) X.env = (do
      let ov ← eval o X.env
      standAt apos.atName
      let (f, first) ← holding [ov] (getMethod ov m pl)
      callWith pos f first (backTo pos (starEach (e :: es) X.env)) (backToKw pos (keywordEach kws X.env))) := by rfl) :
    PE X (.Call (.Attribute o m apos) (e :: es) kws pos) (cMethK C m ks.length sp E ta t tk) := by
  refine ⟨fun pins s σ H Q I h => ?_⟩
  refine PySem.W.methodCall_KW (pl := pl) (thn (he.run pins s σ H _ I h) fun u s1 ⟨x, H1, I1, rx, a, dx, fs, ex, ea, l, q⟩ => ?_) ht
  subst ex
  obtain rfl : u = Value.ref a := rx
  refine getmeth_ok I1 ea c hm l ?_
  refine PySem.W.callWith_KW (first := [.ref a]) (h₀ := X.base) I.ok.mod.kin hm.kp hall (thn (ha.run pos pins s1 σ H1 _ I1 q) fun us s2 ⟨vs, H2, I2, r, q2⟩ => ?_) hpl hst
  refine thn (hkw.run pos pins s2 σ H2 _ I2 q2) fun ws s3 ⟨zs, H3, I3, rz, l3, q3⟩ => ⟨I3.kIn, ?_⟩
  rw [hks]
  exact run_f (us := .ref a :: us) (vs := .ref a :: vs) F hr hx I3 (.cons rfl r) rz l3 q3
theorem pe_mtK0 {pl : Sem Bool} (he : PE X o ta) (c : Cls X.K C) (hm : Meth X.K C m f) (F : Fn gd X.prog X.w X.K X.mg X.base k f ks sp) (hr : Rm gd k X.A) (hx : Passes (L2.CX X.prog X.w) X E) (hkw : PK X kws tk)
    (hall : (backToKw pos (keywordEach kws X.env)).all (·.1.isSome) = true := by rfl) (hks : (backToKw pos (keywordEach kws X.env)).filterMap (·.1) = ks := by rfl)
    (hpl : ((backTo pos (starEach [] X.env)).any (·.1) || (backToKw pos (keywordEach kws X.env)).any (·.1.isNone)) = false := by rfl)
    (ht : eval (.Call (.Attribute o m apos) [] kws pos) X.env = (do
      let ov ← eval o X.env
      standAt apos.atName
      let (f, first) ← holding [ov] (getMethod ov m pl)
      callWith pos f first (backTo pos (starEach [] X.env)) (backToKw pos (keywordEach kws X.env))) := by rfl) :
    PE X (.Call (.Attribute o m apos) [] kws pos) (cMethK C m ks.length sp E ta tNil tk) := by
  refine ⟨fun pins s σ H Q I h => ?_⟩
  refine PySem.W.methodCall_KW (pl := pl) (thn (he.run pins s σ H _ I h) fun u s1 ⟨x, H1, I1, rx, a, dx, fs, ex, ea, l, q⟩ => ?_) ht
  subst ex
  obtain rfl : u = Value.ref a := rx
  refine getmeth_ok I1 ea c hm l ?_
  refine PySem.W.callWith_KW0 (first := [.ref a]) (h₀ := X.base) I.ok.mod.kin hm.kp hall ?_ hpl
  refine thn (hkw.run pos pins s1 σ H1 _ I1 q) fun ws s3 ⟨zs, H3, I3, rz, l3, q3⟩ => ⟨I3.kIn, ?_⟩
  rw [hks]
  exact run_f (us := [.ref a]) (vs := [.ref a]) F hr hx I3 (.cons rfl .nil) rz l3 q3

theorem run_mk {pins : List (Addr × Obj)} {σ : L2.St} {H : Hp} {s : Shared} {Q : VK} {us ws : List Value} {vs zs : List V} (M : Mk X.K C f) (F : Fn gd X.prog X.w X.K X.mg X.base k f ks sp) (hr : Rm gd (k + 1) X.A) (hx : Passes (L2.CX X.prog X.w) X E)
    (I : Inv X pins σ H s) (r : Vals vs us) (rz : Vals zs ws) (lz : zs.length = ks.length)
    (h : ∀ x dx, H x = Option.none → H dx = Option.none → dx ≠ x → sp (V.ref x :: (vs ++ zs)) (upd (upd H dx (.own x)) x (.ins C dx [])) (fun v H2 => v = .non ∧ Q (.ref x) H2) E) :
    wpAny (model X.prog X.w) X.A (call (.ref C) us (ks.zip ws)) (EP X pins σ Q) X.xe s := by
  have hq := h (s.heap.objs.size + 1) s.heap.objs.size (I.hok.fresh (Nat.le_succ _)) (I.hok.fresh (Nat.le_refl _)) (Nat.ne_of_lt (Nat.lt_succ_self _))
  have I2 := Inv.made (C := C) I
  have r2 : Vals (V.ref (s.heap.objs.size + 1) :: vs) (Value.ref (s.heap.objs.size + 1) :: us) := .cons rfl r
  refine wpAny_call (make_map (f := f) I.kIn M.makes M.init (beq_iff_eq.mp M.fn) (codeAny_mono (F _ X.stack _ _ (Value.ref (s.heap.objs.size + 1) :: us) ws _ zs _ E (hr.make C us (ks.zip ws)) (I2.env0.make C us (ks.zip ws)) r2 rz lz hq) fun r s' hq' => ?_))
  cases r with
  | error e => exact hx pins σ _ _ e s' I2 hq'
  | ok fl =>
    cases fl with
    | ret u =>
      obtain ⟨v, H', I3, rv, ev, q3⟩ := I2.after hq'
      subst ev
      exact ⟨rv, ⟨V.ref (s.heap.objs.size + 1), H', I3, rfl, q3⟩⟩
    | next => exact False.elim hq'
    | brk => exact False.elim hq'
    | cont => exact False.elim hq'
theorem run_mk0 {pins : List (Addr × Obj)} {σ : L2.St} {H : Hp} {s : Shared} {Q : VK} {us : List Value} {vs : List V} (M : Mk X.K C f) (F : Fn gd X.prog X.w X.K X.mg X.base k f [] sp) (hr : Rm gd (k + 1) X.A) (hx : Passes (L2.CX X.prog X.w) X E)
    (I : Inv X pins σ H s) (r : Vals vs us)
    (h : ∀ x dx, H x = Option.none → H dx = Option.none → dx ≠ x → sp (V.ref x :: vs) (upd (upd H dx (.own x)) x (.ins C dx [])) (fun v H2 => v = .non ∧ Q (.ref x) H2) E) :
    wpAny (model X.prog X.w) X.A (call (.ref C) us) (EP X pins σ Q) X.xe s :=
  run_mk (ws := []) (zs := []) M F hr hx I r .nil rfl (by rw [List.append_nil]; exact h)
theorem pe_mk (M : Mk X.K C f) (F : Fn gd X.prog X.w X.K X.mg X.base k f [] sp) (hr : Rm gd (k + 1) X.A) (hg : Gl X x) (hm : X.mg x = some (.ref C)) (hx : Passes (L2.CX X.prog X.w) X E) (ha : PA X (e :: es) t) (hdb : (x == ("__debug__" : Str)) = false := by decide)
    (he : starEach (e :: es) X.env = (false, eval e X.env) :: starEach es X.env := by rfl) (hpl : (backTo pos (starEach es X.env)).any (·.1) = false := by rfl) : PE X (.Call (.Name x p) (e :: es) [] pos) (cMake C sp E t) := by
  refine ⟨fun pins s σ H Q I h => ?_⟩
  refine wpAny_Call_Name_kw (ld_glob I hg hm ?_ hdb)
  refine PySem.W.callWith_K (h₀ := X.base) I.ok.mod.kin M.kp (thn (ha.run pos pins s σ H _ I h) fun us s1 ⟨vs, H1, I1, r, q⟩ => ⟨I1.kIn, ?_⟩) he hpl
  exact run_mk0 M F hr hx I1 r q
theorem pe_mk0 (M : Mk X.K C f) (F : Fn gd X.prog X.w X.K X.mg X.base k f [] sp) (hr : Rm gd (k + 1) X.A) (hg : Gl X x) (hm : X.mg x = some (.ref C)) (hx : Passes (L2.CX X.prog X.w) X E) (hdb : (x == ("__debug__" : Str)) = false := by decide) :
    PE X (.Call (.Name x p) [] [] pos) (cMake C sp E tNil) := by
  refine ⟨fun pins s σ H Q I h => ?_⟩
  refine wpAny_Call_Name_kw (ld_glob I hg hm ?_ hdb)
  exact PySem.W.callWith_K0 I.kIn M.kp (run_mk0 (us := []) M F hr hx I .nil h)
/-- C( *xs) -/
theorem pe_mkS (M : Mk X.K C f) (F : Fn gd X.prog X.w X.K X.mg X.base k f [] sp) (hr : Rm gd (k + 1) X.A) (hg : Gl X x) (hm : X.mg x = some (.ref C)) (hx : Passes (L2.CX X.prog X.w) X E) (he : PE X e te) (hdb : (x == ("__debug__" : Str)) = false := by decide)
    (hst : starEach [.Starred e sp_] X.env = [(true, eval e X.env)] := by rfl) :
    PE X (.Call (.Name x p) [.Starred e sp_] [] pos) (fun σ H Q => te σ H fun y H1 => ∃ a xs, y = V.ref a ∧ (SqT X.K H1 a xs ∨ SqL X.K H1 a xs) ∧ ∀ x dx, H1 x = Option.none → H1 dx = Option.none → dx ≠ x →
      sp (V.ref x :: xs) (upd (upd H1 dx (.own x)) x (.ins C dx [])) (fun v H2 => v = .non ∧ Q (.ref x) H2) E) := by
  refine ⟨fun pins s σ H Q I h => ?_⟩
  refine wpAny_Call_Name_kw (ld_glob I hg hm ?_ hdb)
  refine PySem.W.callWith_S (h₀ := X.base) I.ok.mod.kin M.kp (thn (he.run pins s σ H _ I h) fun v s1 ⟨y, H1, I1, ry, a, xs, ey, hxs, q⟩ => ?_) hst
  subst ey
  obtain rfl : v = Value.ref a := ry
  exact StX.star_any I1 hxs fun us s2 I2 rv => ⟨I2.kIn, run_mk0 M F hr hx I2 rv q⟩
theorem pe_mkK (M : Mk X.K C f) (F : Fn gd X.prog X.w X.K X.mg X.base k f ks sp) (hr : Rm gd (k + 1) X.A) (hg : Gl X x) (hm : X.mg x = some (.ref C)) (hx : Passes (L2.CX X.prog X.w) X E) (ha : PA X (e :: es) t) (hkw : PK X kws tk)
    (hall : (backToKw pos (keywordEach kws X.env)).all (·.1.isSome) = true := by rfl) (hks : (backToKw pos (keywordEach kws X.env)).filterMap (·.1) = ks := by rfl) (hdb : (x == ("__debug__" : Str)) = false := by decide)
    (he : starEach (e :: es) X.env = (false, eval e X.env) :: starEach es X.env := by rfl) (hpl : ((backTo pos (starEach (e :: es) X.env)).any (·.1) || (backToKw pos (keywordEach kws X.env)).any (·.1.isNone)) = false := by rfl) :
    PE X (.Call (.Name x p) (e :: es) kws pos) (cMakeK C ks.length sp E t tk) := by
  refine ⟨fun pins s σ H Q I h => ?_⟩
  refine wpAny_Call_Name_kw (ld_glob I hg hm ?_ hdb)
  refine PySem.W.callWith_KW (h₀ := X.base) I.ok.mod.kin M.kp hall (thn (ha.run pos pins s σ H _ I h) fun us s1 ⟨vs, H1, I1, r, q⟩ => ?_) hpl he
  refine thn (hkw.run pos pins s1 σ H1 _ I1 q) fun ws s2 ⟨zs, H2, I2, rz, l, q2⟩ => ⟨I2.kIn, ?_⟩
  rw [hks]
  exact run_mk M F hr hx I2 r rz l q2
theorem pe_mkK0 (M : Mk X.K C f) (F : Fn gd X.prog X.w X.K X.mg X.base k f ks sp) (hr : Rm gd (k + 1) X.A) (hg : Gl X x) (hm : X.mg x = some (.ref C)) (hx : Passes (L2.CX X.prog X.w) X E) (hkw : PK X kws tk)
    (hall : (backToKw pos (keywordEach kws X.env)).all (·.1.isSome) = true := by rfl) (hks : (backToKw pos (keywordEach kws X.env)).filterMap (·.1) = ks := by rfl) (hdb : (x == ("__debug__" : Str)) = false := by decide)
    (hpl : ((backTo pos (starEach [] X.env)).any (·.1) || (backToKw pos (keywordEach kws X.env)).any (·.1.isNone)) = false := by rfl) :
    PE X (.Call (.Name x p) [] kws pos) (cMakeK C ks.length sp E tNil tk) := by
  refine ⟨fun pins s σ H Q I h => ?_⟩
  refine wpAny_Call_Name_kw (ld_glob I hg hm ?_ hdb)
  refine PySem.W.callWith_KW0 (h₀ := X.base) I.ok.mod.kin M.kp hall ?_ hpl
  refine thn (hkw.run pos pins s σ H _ I h) fun ws s2 ⟨zs, H2, I2, rz, l, q2⟩ => ⟨I2.kIn, ?_⟩
  rw [hks]
  exact run_mk (us := []) (vs := []) M F hr hx I2 .nil rz l q2
end

/-! ### a property read (its getter lets nothing out) -/
def cProp (C : Addr) (sp : Sp) (E : XK) (ta : TE) : TE := fun σ H Q => ta σ H fun x H1 => ∃ a dx fs, x = .ref a ∧ H1 a = some (.ins C dx fs) ∧ sp [.ref a] H1 Q E
section
variable {gd : Bool} {X : Cx} {k : Nat} {C p g a dx : Addr} {fs : List (Str × V)} {f : Str} {sp : Sp} {E : XK} {e : Expr} {pos : Pos} {ta : TE}
theorem getprop_f {pins : List (Addr × Obj)} {σ : L2.St} {H : Hp} {s : Shared} {Q : VK} {b : Bool} (I : Inv X pins σ H s) (ea : H a = some (.ins C dx fs)) (c : Cls X.K C) (hp : PropOf X.K C f p g)
    (F : Fn gd X.prog X.w X.K X.mg X.base k g [] sp) (hr : Rm gd (k + 1) X.A) (hx : Passes (L2.CX X.prog X.w) X.nox E) (h : sp [.ref a] H Q E) {E' : Value → Shared → Prop} :
    wpAny (model X.prog X.w) X.A (getAttr (.ref a) f b) (EP X pins σ Q) E' s := by
  obtain ⟨mA, O, _, _, _, _⟩ := ins_get I.hok ea
  obtain ⟨od, J, _⟩ := O.look
  obtain ⟨rest, hrec⟩ := hp.rec_
  have I1 := I.tok (s.toks + 1)
  have hc : (PySem.W.clsIn X.K C).isSome = true := by
    obtain ⟨cd, hc, _⟩ := PySem.W.any_some c.hd
    rw [hc]
    rfl
  refine PySem.W.get_bind I.kIn J (PySem.W.plainGet_of (c.get f)).1 (PySem.W.findObj_data hc hp.at_ hp.get hp.tak) (PySem.W.plainGet_of (c.get f)).2 (wpAny_call (PySem.W.prop_get (s := { s with toks := s.toks + 1 }) I.kIn hrec ?_))
  refine codeAny_mono (F X.A.in1 X.stack { s with toks := s.toks + 1 } H [.ref a] [] [.ref a] [] Q E hr.in1 I1.env0.in1 (.cons rfl .nil) .nil rfl h) fun r s' hq => ?_
  cases r with
  | error er => exact False.elim (hx pins σ H { s with toks := s.toks + 1 } er s' (I1.wish _) hq)
  | ok fl =>
    cases fl with
    | ret u =>
      obtain ⟨v, H', I3, rv, q3⟩ := I1.after hq
      show wpAny _ _ (handedOut u) _ _ _
      rw [PySem.W.handedOut_of (handed_of rv)]
      exact wpAny_pure ⟨v, H', I3, rv, q3⟩
    | next => exact False.elim hq
    | brk => exact False.elim hq
    | cont => exact False.elim hq
theorem pe_pr (he : PE X e ta) (c : Cls X.K C) (hp : PropOf X.K C f p g) (F : Fn gd X.prog X.w X.K X.mg X.base k g [] sp) (hr : Rm gd (k + 1) X.A) (hx : Passes (L2.CX X.prog X.w) X.nox E)
    (hab : attributeBase e f X.env (eval e X.env) = eval e X.env := by rfl) : PE X (.Attribute e f pos) (cProp C sp E ta) := by
  refine ⟨fun pins s σ H Q I h => ?_⟩
  refine attr_of hab (thn (he.run pins s σ H _ I h) fun u s1 ⟨x, H1, I1, rx, a, dx, fs, ex, ea, q⟩ => ?_)
  subst ex
  obtain rfl : u = Value.ref a := rx
  exact getprop_f I1 ea c hp F hr hx q
end
end FL

namespace FL
open PySem PySem.Spec PyProof.Rows L2

/-! ### repr of data -/
def rRepr (K : PySem.W.Frag) : List V → Hp → VK → Prop := fun xs H Q => ∃ x d, xs = [x] ∧ Dp K H x d ∧ d.showable = true ∧ d.hasDict = false ∧ d.leavesShort 13 = true ∧ d.weight ≤ 2 ^ 20 ∧ d.depth ≤ 60 ∧ (∀ i, x ≠ .int i) ∧ Q (.str d.shown) H
theorem call_repr {X : Cx} {k : Nat} (hr : Rm true k X.A) : CallR X (.builtin "repr") (rRepr X.K) := by
  intro pins s σ H xs us Q I r h
  obtain ⟨x, d, rfl, hd, hs, hn, hl, hw, hz, hi, q⟩ := h
  obtain ⟨u, rfl, rx⟩ := vals1 r
  have hu := hr.r.units
  have hf := PyData.shown_fits (B := 13) (by decide) (by decide) hl hw
  obtain ⟨as, rd⟩ := Dp.reads I d x u hd rx
  cases rd with
  | none => exact PySem.P.repr_of_none ⟨.str _, H, I.tok _, ⟨_, by rw [PyData.shown_none]⟩, q⟩
  | bool b => exact PySem.P.repr_of_bool ⟨.str _, H, I.tok _, ⟨_, by rw [PyData.shown_bool]⟩, q⟩
  | int i t =>
    exfalso
    cases x with
    | int j => exact hi j rfl
    | non => cases (show Value.int i t = Value.none from rx)
    | bl j => cases (show Value.int i t = Value.bool j from rx)
    | str j => obtain ⟨t', e⟩ := (show ∃ t', Value.int i t = Value.str j t' from rx); cases e
    | byt j => obtain ⟨t', e⟩ := (show ∃ t', Value.int i t = Value.bytes j t' from rx); cases e
    | flt j => obtain ⟨t', e⟩ := (show ∃ t', Value.int i t = Value.float j t' from rx); cases e
    | ref j => cases (show Value.int i t = Value.ref j from rx)
    | ty j => cases (show Value.int i t = Value.type j from rx)
  | str y t => exact PySem.P.repr_of_str ⟨.str _, H, I.tok _, ⟨_, by rw [PyData.shown_str]⟩, q⟩ (by rw [← PyData.shown_str]; exact hf)
  | list h1 h2 h3 h4 => exact repr_of_reads' (.list h1 h2 h3 h4) hs (PyData.noDict_hsm hn) (hr.g rfl) (by omega) (fun _ _ e => e) (fun h' u tk hk => ⟨.str _, H, I.kept (t' := tk) hk, ⟨_, rfl⟩, q⟩) hf
  | tuple h1 h2 h3 h4 => exact repr_of_reads' (.tuple h1 h2 h3 h4) hs (PyData.noDict_hsm hn) (hr.g rfl) (by omega) (fun _ _ e => e) (fun h' u tk hk => ⟨.str _, H, I.kept (t' := tk) hk, ⟨_, rfl⟩, q⟩) hf
  | dict h1 h2 h3 h4 h5 => cases hn

/-! ### enumerate(text) -/
def Ies (x : Str) : It := ⟨fun i _ => i < x.cps.size, fun i H v H' => ∃ T c, v = .ref T ∧ H T = none ∧ H' = upd H T (.tup [.int (i : Nat), .str ⟨#[c]⟩]) ∧ x.cps[i]? = some c, fun i _ => x.cps.size ≤ i⟩
theorem turn_enumS {P : Program} {w : World} {K : PySem.W.Frag} {elts : List Expr} {kk : Nat} {tpos : Pos} (e it : Addr) (x : Str) (t : Tok) :
    Turn P w K (.Tuple elts kk tpos) (Ies x) [e, it] e (fun i h => (∃ old, IsEnum h e it ((i : Nat) : Int) old) ∧ h.IsStrIter it (strIterType x) x t i ∧ e ≠ it ∧ i ≤ x.cps.size) where
  mem := by simp
  obj := fun i h st b hb => by
    obtain ⟨⟨old, he⟩, ⟨o, ho, hc, hd⟩, _⟩ := st
    have e' : b = e ∨ b = it := by simpa using hb
    rcases e' with z | z
    · rw [z]; exact ⟨_, he, fun v q => nomatch q⟩
    · rw [z]; exact ⟨o, ho, fun v q => by rw [hd] at q; cases q⟩
  keep := fun i h h' st k => let ⟨⟨old, he⟩, ⟨o, ho, r⟩, hne, hi⟩ := st; ⟨⟨old, k e (by simp) _ he⟩, ⟨o, k it (by simp) o ho, r⟩, hne, hi⟩
  item := by
    intro X hP hw hK hc i pins s σ H E I hf st hg
    subst hP hw hK
    obtain ⟨⟨old, he⟩, hit, hne, hi⟩ := st
    have hlt : i < x.cps.size := hg
    have D : Draws X.prog X.w X.A.in1 it [it] x.cps.size (fun i v => ∃ c u, x.cps[i]? = some c ∧ v = .str ⟨#[c]⟩ u) (fun i h => h.IsStrIter it (strIterType x) x t i) := by
      unfold strIterType
      split
      · exact Draws.strAscii (A := X.A.in1) (show X.A.in1.handled = none from I.ok.hd hc) it x t
      · exact Draws.strWide (A := X.A.in1) (show X.A.in1.handled = none from I.ok.hd hc) it x t
    have hel : e < s.heap.objs.size := Heap.lt_size he
    have hil : it < s.heap.objs.size := by obtain ⟨_, q, _⟩ := hit; exact Heap.lt_size q
    refine wpAny_pyNext_enum_itemD D he hit hlt hne (by simpa using hne) fun v h' tk hv ho hit' hT hsz hk => ?_
    obtain ⟨c, u, hcx, rfl⟩ := hv
    refine ⟨_, rfl, wpAny_letOwnedTupleGo_enum (s := { s with heap := h', toks := tk + 1 }) ho fun h'' he' sb => ?_⟩
    have hT2 : h''.get? s.heap.objs.size = some { cls := .type "tuple", data := .seq #[.int i tk, .str ⟨#[c]⟩ u] } := (sb.2 _ (Nat.ne_of_gt hel)).trans hT
    have new : ObjOk X.prog X.w (upd H s.heap.objs.size (.tup [.int (i : Nat), .str ⟨#[c]⟩])) h'' s.heap.objs.size (.tup [.int (i : Nat), .str ⟨#[c]⟩]) :=
      ⟨by show 2 ≤ sizeLine; decide, [.int i tk, .str ⟨#[c]⟩ u], .cons ⟨_, rfl⟩ (.cons ⟨_, rfl⟩ .nil), ⟨_, hT2, rfl, _, rfl⟩⟩
    have I1 : Inv X pins σ (upd H s.heap.objs.size (.tup [.int (i : Nat), .str ⟨#[c]⟩])) { s with heap := h'', toks := tk + 1 } :=
      I.turnedNew (ch := [e, it]) (fun b ob hb q => (sb.2 b (fun z => hb (by simp [z]))).trans (hk b ob (fun z => hb (by simp [z])) (fun z => hb (by simp [z])) q)) hf (Nat.le_refl _) new
    obtain ⟨oi, hoi, ri⟩ := hit'
    refine ⟨.ref s.heap.objs.size, _, I1, rfl, ⟨_, c, rfl, I.hok.fresh (Nat.le_refl _), rfl, hcx⟩, ⟨⟨.str ⟨#[c]⟩ u, ?_⟩, ⟨oi, (sb.2 it (Ne.symm hne)).trans hoi, ri⟩, hne, hlt⟩, fun b hb => ?_⟩
    · have e1 : ((i + 1 : Nat) : Int) = (i : Int) + 1 := by omega
      rw [e1]; exact he'
    · have hb' : b < s.heap.objs.size := by
        have e' : b = e ∨ b = it := by simpa using hb
        rcases e' with z | z
        · rw [z]; exact hel
        · rw [z]; exact hil
      rw [upd_ne (Nat.ne_of_lt hb')]
      exact (hf b hb).1
  done := by
    intro X hP hw hK hc i pins s σ H E I hf st hg
    subst hP hw hK
    obtain ⟨⟨old, he⟩, hit, hne, hi⟩ := st
    have hge : x.cps.size ≤ i := hg
    have ei : i = x.cps.size := by omega
    subst ei
    obtain ⟨f0, f1, f2, f3, f4, f5⟩ := hf it (by simp)
    have D : Draws X.prog X.w X.A.in1 it [it] x.cps.size (fun i v => ∃ c u, x.cps[i]? = some c ∧ v = .str ⟨#[c]⟩ u) (fun i h => h.IsStrIter it (strIterType x) x t i) := by
      unfold strIterType
      split
      · exact Draws.strAscii (A := X.A.in1) (show X.A.in1.handled = none from I.ok.hd hc) it x t
      · exact Draws.strWide (A := X.A.in1) (show X.A.in1.handled = none from I.ok.hd hc) it x t
    exact wpAny_pyNext_enum_endD D he hit fun h' eb => ⟨rfl, I.turned (t' := s.toks) (fun b o hb q => eb b o hb q) f0 f1 f3 f4 f5⟩
  self := fun A i s Q E st h => let ⟨⟨_, he⟩, _⟩ := st; wpAny_pyIter_enum he h
def iEnumS (ta : TA) : TI := fun σ H R => ta σ H fun vs H1 => ∃ x, vs = [.str x] ∧ R (Ies x) H1
theorem pi_enumS {X : Cx} {e : Expr} {ta : TA} {p pos tpos : Pos} {elts : List Expr} {kk : Nat} (hg : Gl X "enumerate") (hm : X.mg "enumerate" = none) (ha : PA X [e] ta) (hs : starEach [e] X.env = [(false, eval e X.env)] := by rfl) :
    PI X (.Tuple elts kk tpos) (.Call (.Name "enumerate" p) [e] [] pos) (iEnumS ta) := by
  refine ⟨fun pins s σ H R I h => ?_⟩
  refine Call_ (ld_blt I hg hm boot_enumerate (PyProof.Rows.callWith_type1 (thn (ha.run pos pins s σ H _ I h) fun us s1 ⟨vs, H1, I1, r1, q1⟩ => ?_) hs rfl))
  obtain ⟨x, ex, q⟩ := q1
  subst ex
  cases r1 with
  | cons r rr =>
    cases rr
    obtain ⟨t, rfl⟩ := r
    refine call_enumerate_str fun h' he hit hsz hk => wpAny_pyIter_enum he ?_
    have I2 : Inv X pins σ H1 { s1 with heap := h' } := I1.kept (t' := s1.toks) hk
    refine ⟨s1.heap.objs.size + 1, [s1.heap.objs.size + 1, s1.heap.objs.size], _, _, H1, rfl, I2, turn_enumS (s1.heap.objs.size + 1) s1.heap.objs.size x t, ⟨⟨.none, he⟩, hit, Nat.succ_ne_self _, Nat.zero_le _⟩, fun b hb => ?_, q⟩
    have e' : b = s1.heap.objs.size + 1 ∨ b = s1.heap.objs.size := by simpa using hb
    have hle : s1.heap.objs.size ≤ b := by
      rcases e' with z | z
      · rw [z]; exact Nat.le_add_right _ _
      · rw [z]; exact Nat.le_refl _
    exact I1.fpOk hle (I1.hok.fresh hle)
end FL

/-! The head: facts of the top, read off one run in the kernel. -/
namespace FH
open PySem PySem.Spec PyProof.Rows L2 He

/-! ### a def: where it stands, its parts -/
structure DX where
  at_ : PySem.W.Frag → Addr
  name : Str
  qual : Str
  st : Stmt
  dfl : List Dv := []
  kwd : List (Str × Dv) := []
abbrev FX : Type := Option (Str × Str × Arguments × FuncBody × Scope × Addr × List (Str × Addr) × Addr)
def fnX (K : PySem.W.Frag) (a : Addr) : FX := match K.lookup a with
  | some ⟨_, _, .func fd, _⟩ => some (fd.name, fd.qualname, fd.params, fd.body, fd.scope, fd.globals, fd.closure, fd.builtins)
  | _ => none
def DX.val (d : DX) : FX := some (d.name, d.qual, defArgs d.st, .stmts (defBody d.st), defScope d.st, mainGlobals, [], builtinsNs)
def DX.dvs (K : PySem.W.Frag) (d : DX) : List V := d.dfl.map (Dv.v K)
def DX.kws (K : PySem.W.Frag) (d : DX) : List (Str × V) := d.kwd.map fun q => (q.1, q.2.v K)
def DX.ok (K : PySem.W.Frag) (d : DX) : Bool := PySem.W.keepIn K (.ref (d.at_ K)) && (match K.lookup (d.at_ K) with
  | some ⟨_, _, .func fd, _⟩ => PySem.W.codeIn K fd.code d.qual && (dflB K fd.defaults (d.dvs K) && kwdB K fd.kwdefaults (d.kws K))
  | _ => false)
abbrev FunX (K : PySem.W.Frag) (d : DX) (fd : FuncData) : Prop := FunD K d.name d.qual (defArgs d.st) (defBody d.st) (defScope d.st) (d.dvs K) (d.kws K) (d.at_ K) fd
theorem DX.funD {K : PySem.W.Frag} {d : DX} (e : fnX K (d.at_ K) = d.val) (c : d.ok K = true) : ∃ fd, FunX K d fd := by
  obtain ⟨kp, c2⟩ := ba c
  unfold fnX at e
  cases q : K.lookup (d.at_ K) with
  | none =>
    rw [q] at c2
    cases c2
  | some o =>
    obtain ⟨oc, od, dt, osl⟩ := o
    rw [q] at c2 e
    cases dt with
    | func fd =>
      obtain ⟨n1, n2, n3, n4, n5, n6, n7, n8, n9, n10, n11, n12, n13, n14, n15⟩ := fd
      have e2 : (some (n1, n2, n3, n4, n5, n6, n7, n15) : FX) = some (d.name, d.qual, defArgs d.st, .stmts (defBody d.st), defScope d.st, mainGlobals, [], builtinsNs) := e
      simp only [Option.some.injEq, Prod.mk.injEq] at e2
      obtain ⟨h1, h2, h3, h4, h5, h6, h7, h8⟩ := e2
      subst h1 h2 h3 h4 h5 h6 h7 h8
      have c3 : (PySem.W.codeIn K n13 d.qual && (dflB K n8 (d.dvs K) && kwdB K n9 (d.kws K))) = true := c2
      obtain ⟨k1, k2⟩ := ba c3
      obtain ⟨k3, k4⟩ := ba k2
      exact ⟨_, ⟨oc, od, n8, n9, n10, n11, n12, n13, n14, osl, rfl, q, k1, dflB_ok k3, kwdB_ok k4⟩, kp⟩
    | _ => cases c2
/-! ### places -/
def pgA (K : PySem.W.Frag) (p : Addr) : Addr := match PySem.W.recIn K p "property" with
  | some (.ref g :: _) => g
  | _ => 0
def aG (x : Str) : PySem.W.Frag → Addr := fun K => ga K x
def aM (x m : Str) : PySem.W.Frag → Addr := fun K => ma K (ga K x) m
def aP (x m : Str) : PySem.W.Frag → Addr := fun K => pgA K (ma K (ga K x) m)
/-! ### facts -/
abbrev Ft : Type := PySem.W.Frag → Bool
def fGlo (x : Str) : Ft := fun K => (Fa.glo x).ok K
def fFree (x : Str) : Ft := fun K => (Fa.free x).ok K
def fInt (x : Str) (i : Int) : Ft := fun K => (Fa.int x i).ok K
def fStr (x z : Str) : Ft := fun K => (Fa.str x z).ok K
def fCls (x : Str) : Ft := fun K => (Fa.cls x).ok K
def fNo (x f : Str) : Ft := fun K => (Fa.noat x f).ok K
def fMeth (x m : Str) : Ft := fun K => (Fa.meth x m).ok K
def fMkr (x : Str) : Ft := fun K => (Fa.mkr x).ok K
def fProp (x f : Str) : Ft := fun K => eqO (PySem.W.findIn K (.ref (ga K x)) f) (some (some (.ref (ma K (ga K x) f)))) && (decide (PySem.W.specialIn K (.ref (ma K (ga K x) f)) "__get__" = some (some (.builtin "property.__get__"))) &&
  (decide (PySem.W.takesIn K (.ref (ma K (ga K x) f)) = some true) && (match PySem.W.recIn K (ma K (ga K x) f) "property" with
    | some (.ref _ :: _) => true
    | _ => false)))
def fCon (x f : Str) (v : Dv) : Ft := fun K => (match PySem.W.findIn K (.ref (ga K x)) f with
  | some (some u) => relB (v.v K) u && (decide (PySem.W.specialIn K u "__get__" = some none) && !PySem.W.copiedNames.contains f)
  | _ => false)
def fKit (t c : PySem.W.Frag → Value) (b : Bool) : Ft := fun K => decide (PySem.W.kitOne K (t K) (c K) = some b)
/-- isinstance's look at an instance of x -/
def fIns (x : Str) : Ft := fun K => eqO (PySem.W.findIn K (.ref (ga K x)) "__class__") (some (some (.builtin "object.__class__"))) && (decide (PySem.W.specialIn K (.builtin "object.__class__") "__get__" = some (some (.builtin "getset_descriptor.__get__"))) &&
  (decide (PySem.W.takesIn K (.builtin "object.__class__") = some true) && decide (PySem.W.mroIn K (ga K x) (.type "object") = some true)))
section
variable {K : PySem.W.Frag} {x f : Str}
theorem prop_ok (c : fProp x f K = true) : PropOf K (ga K x) f (ma K (ga K x) f) (pgA K (ma K (ga K x) f)) := by
  obtain ⟨c1, c⟩ := ba c
  obtain ⟨c2, c⟩ := ba c
  obtain ⟨c3, c4⟩ := ba c
  refine ⟨eqO_ok c1, of_decide_eq_true c2, of_decide_eq_true c3, ?_⟩
  unfold pgA
  cases q : PySem.W.recIn K (ma K (ga K x) f) "property" with
  | none =>
    rw [q] at c4
    cases c4
  | some l =>
    rw [q] at c4
    cases l with
    | nil => cases c4
    | cons a r =>
      cases a with
      | ref g => exact ⟨r, rfl⟩
      | _ => cases c4
theorem con_ok {v : Dv} (c : fCon x f v K = true) : ∃ u, Con K (ga K x) f (v.v K) u := by
  unfold fCon at c
  cases q : PySem.W.findIn K (.ref (ga K x)) f with
  | none =>
    rw [q] at c
    cases c
  | some o =>
    rw [q] at c
    cases o with
    | none => cases c
    | some u =>
      obtain ⟨c1, c⟩ := ba (show (relB (v.v K) u && (decide (PySem.W.specialIn K u "__get__" = some none) && !PySem.W.copiedNames.contains f)) = true from c)
      obtain ⟨c2, c3⟩ := ba c
      exact ⟨u, q, relB_ok c1, of_decide_eq_true c2, by simpa using c3⟩
theorem kit_ok {t c : PySem.W.Frag → Value} {b : Bool} (h : fKit t c b K = true) : PySem.W.kitOne K (t K) (c K) = some b := of_decide_eq_true h
theorem ins_ok (cl : Cls K (ga K x)) (c : fIns x K = true) {H : Hp} {a dx : Addr} {fs : List (Str × V)} (e : H a = some (.ins (ga K x) dx fs)) : TyOf K H (.ref a) (.ref (ga K x)) := by
  obtain ⟨c1, c⟩ := ba c
  obtain ⟨c2, c⟩ := ba c
  obtain ⟨c3, c4⟩ := ba c
  exact .ins e cl (eqO_ok c1) (of_decide_eq_true c2) (of_decide_eq_true c3) (of_decide_eq_true c4)
end
/-! ### the Hook -/
abbrev AlX : Type := Bool × List FX
def obsX (fa : List Ft) (fn : List DX) (K : PySem.W.Frag) : AlX := ((fa.all fun f => f K) && fn.all fun d => d.ok K, fn.map fun d => fnX K (d.at_ K))
def valX (fn : List DX) : AlX := (true, fn.map DX.val)
def SaysX (fa : List Ft) (fn : List DX) (K : PySem.W.Frag) : Prop := obsX fa fn K = valX fn
def obsXG (n : Nat) (fa : List Ft) (fn : List DX) (g : Addr → Option Obj) : AlX := obsX fa fn (frG g (List.range n))
def hookX (n : Nat) (fa : List Ft) (fn : List DX) : PySem.W.Hook where
  α := AlX
  obs := fun s => obsXG n fa fn s.heap.get?
  val := fun _ => valX fn
  says := fun _ h => ∃ K : PySem.W.Frag, K.In h ∧ SaysX fa fn K
  of := fun _ _ e => ⟨_, frG_in, e⟩
  keeps := fun _ _ _ ⟨K, hK, c⟩ k => ⟨K, PySem.W.Frag.In.keeps hK k, c⟩
theorem obsXG_eq {n : Nat} {fa : List Ft} {fn : List DX} {g : Addr → Option Obj} {s : Shared} (h : ∀ a, g a = s.heap.get? a) : obsXG n fa fn g = (hookX n fa fn).obs s := by
  have e : g = s.heap.get? := funext h
  rw [e] <;> rfl
section
variable {fa : List Ft} {fn : List DX} {K : PySem.W.Frag}
theorem SaysX.fact (c : SaysX fa fn K) (i : Nat) {f : Ft} (h : fa[i]? = some f := by rfl) : f K = true := by
  have c1 := (ba (show ((fa.all fun f => f K) && fn.all fun d => d.ok K) = true from congrArg (fun z : AlX => z.1) c)).1
  exact List.all_eq_true.mp c1 f (List.mem_of_getElem? h)
theorem SaysX.def_ (c : SaysX fa fn K) (i : Nat) {d : DX} (h : fn[i]? = some d := by rfl) : ∃ fd, FunX K d fd := by
  have c2 := (ba (show ((fa.all fun f => f K) && fn.all fun d => d.ok K) = true from congrArg (fun z : AlX => z.1) c)).2
  have e : fn.map (fun d => fnX K (d.at_ K)) = fn.map DX.val := congrArg (fun z : AlX => z.2) c
  have e2 : (fn.map fun d => fnX K (d.at_ K))[i]? = (fn.map DX.val)[i]? := by rw [e]
  rw [List.getElem?_map, List.getElem?_map, h] at e2
  exact DX.funD (Option.some.inj e2) (List.all_eq_true.mp c2 d (List.mem_of_getElem? h))
end
/-- what every def's theorem leans on -/
structure Tx (fa : List Ft) (fn : List DX) (K : PySem.W.Frag) (mg : Str → Option Value) : Prop where
  c : SaysX fa fn K
  g : ∃ h : Heap, K.In h ∧ h.Ns mainGlobals mg
section
variable {fa : List Ft} {fn : List DX} {K : PySem.W.Frag} {mg : Str → Option Value}
theorem Tx.glo (T : Tx fa fn K mg) {x : Str} (c : fGlo x K = true) : mg x = some (.ref (ga K x)) := let ⟨_, X, G⟩ := T.g; glo_ok X G c
theorem Tx.free (T : Tx fa fn K mg) {x : Str} (c : fFree x K = true) : mg x = none := let ⟨_, X, G⟩ := T.g; free_ok X G c
theorem Tx.int (T : Tx fa fn K mg) {x : Str} {i : Int} (c : fInt x i K = true) : ∃ t, mg x = some (.int i t) := let ⟨_, X, G⟩ := T.g; int_ok X G c
theorem Tx.str (T : Tx fa fn K mg) {x z : Str} (c : fStr x z K = true) : ∃ t, mg x = some (.str z t) := let ⟨_, X, G⟩ := T.g; str_ok X G c
end
/-- a module's int, text -/
theorem pe_gint {X : Cx} {x : Str} {i : Int} {pos : Pos} (hg : Gl X x) (hm : ∃ t, X.mg x = some (.int i t)) (hd : (x == ("__debug__" : Str)) = false := by decide) : PE X (.Name x pos) (tC (.int i)) := let ⟨_, h⟩ := hm; pe_glob hg h ⟨_, rfl⟩ hd
theorem pe_gstr {X : Cx} {x z : Str} {pos : Pos} (hg : Gl X x) (hm : ∃ t, X.mg x = some (.str z t)) (hd : (x == ("__debug__" : Str)) = false := by decide) : PE X (.Name x pos) (tC (.str z)) := let ⟨_, h⟩ := hm; pe_glob hg h ⟨_, rfl⟩ hd
end FH

/-! Readings, step by step: each reading at known slots says what is left. -/
namespace FR
open PySem PySem.Spec PyProof.Rows L2 FL

/-- the two branches of an if, kept shut until the test is known -/
def ifK (t u : TS) (D : Ends) (σ : L2.St) (b : Bool) (H : Hp) : Prop := if b = true then t D σ H else u D σ H
def ifE (ta tb : TE) (σ : L2.St) (Q : VK) (b : Bool) (H : Hp) : Prop := if b = true then ta σ H Q else tb σ H Q
def andK (tb : TE) (σ : L2.St) (Q : VK) (b : Bool) (H : Hp) : Prop := if b = true then tb σ H Q else Q (.bl false) H
def andT (u : TT) (σ : L2.St) (Q : Bool → Hp → Prop) (b : Bool) (H : Hp) : Prop := if b = true then u σ H Q else Q false H
def orT (u : TT) (σ : L2.St) (Q : Bool → Hp → Prop) (b : Bool) (H : Hp) : Prop := if b = true then Q true H else u σ H Q
def orK (tb : TE) (σ : L2.St) (Q : VK) (b : Bool) (H : Hp) : Prop := if b = true then Q (.bl true) H else tb σ H Q
section
variable {σ : L2.St} {H : Hp} {Q : VK} {D : Ends} {ta tb tc te : TE} {t u : TS} {c : TT} {ts tr : TA} {v : V} {i : Nat} {b : Bool} {r r' : R2}
theorem ifK_t : ifK t u D σ true H = t D σ H := if_pos rfl
theorem ifK_f : ifK t u D σ false H = u D σ H := if_neg Bool.false_ne_true
theorem ifE_t : ifE ta tb σ Q true H = ta σ H Q := if_pos rfl
theorem ifE_f : ifE ta tb σ Q false H = tb σ H Q := if_neg Bool.false_ne_true
theorem andK_t : andK tb σ Q true H = tb σ H Q := if_pos rfl
theorem andK_f : andK tb σ Q false H = Q (.bl false) H := if_neg Bool.false_ne_true
theorem orK_t : orK tb σ Q true H = Q (.bl true) H := if_pos rfl
theorem orK_f : orK tb σ Q false H = tb σ H Q := if_neg Bool.false_ne_true
theorem andT_t {u : TT} {Q : Bool → Hp → Prop} : andT u σ Q true H = u σ H Q := if_pos rfl
theorem andT_f {u : TT} {Q : Bool → Hp → Prop} : andT u σ Q false H = Q false H := if_neg Bool.false_ne_true
theorem orT_t {u : TT} {Q : Bool → Hp → Prop} : orT u σ Q true H = Q true H := if_pos rfl
theorem orT_f {u : TT} {Q : Bool → Hp → Prop} : orT u σ Q false H = u σ H Q := if_neg Bool.false_ne_true
theorem r_and {u : TT} {Q : Bool → Hp → Prop} : tAnd c u σ H Q = c σ H (andT u σ Q) := propext Iff.rfl
theorem r_or {u : TT} {Q : Bool → Hp → Prop} : tOr c u σ H Q = c σ H (orT u σ Q) := propext Iff.rfl
theorem r_var (h : σ[i]? = some (some v)) : tVar i σ H Q = Q v H := by
  unfold tVar
  rw [h]
  simp
theorem r_c : tC v σ H Q = Q v H := propext Iff.rfl
theorem r_seq : tSeq t u D σ H = t { D with nx := u D } σ H := propext Iff.rfl
theorem r_next : tNext D σ H = D.nx σ H := propext Iff.rfl
theorem r_break : tBreak D σ H = D.bk σ H := propext Iff.rfl
theorem r_cont : tCont D σ H = D.ct σ H := propext Iff.rfl
theorem r_drop : tDrop te D σ H = te σ H (fun _ H1 => D.nx σ H1) := propext Iff.rfl
theorem r_ret : tRet te D σ H = te σ H D.rt := propext Iff.rfl
theorem r_retN : tRetN D σ H = D.rt .non H := propext Iff.rfl
theorem r_if : tIfS c t u D σ H = c σ H (ifK t u D σ) := propext Iff.rfl
theorem r_ife : tIf c ta tb σ H Q = c σ H (ifE ta tb σ Q) := propext Iff.rfl
theorem r_asg {g : TG} : tAsg te g D σ H = te σ H (fun x H1 => g x σ H1 D.nx) := propext Iff.rfl
theorem r_name {k : L2.St → Hp → Prop} : gName i v σ H k = k (σ.set i (some v)) H := propext Iff.rfl
theorem r_op : tOp r ta tb σ H Q = ta σ H (fun x H1 => tb σ H1 (fun y H2 => r x y H2 Q)) := propext Iff.rfl
theorem r_un {w : V → Hp → VK → Prop} : tUn w ta σ H Q = ta σ H (fun x H1 => w x H1 Q) := propext Iff.rfl
theorem r_nil {k : List V → Hp → Prop} : tNil σ H k = k [] H := propext Iff.rfl
theorem r_cons {k : List V → Hp → Prop} : tCons ta tr σ H k = ta σ H (fun x H1 => tr σ H1 (fun xs H2 => k (x :: xs) H2)) := propext Iff.rfl
theorem r_lst : tLst ts σ H Q = ts σ H (fun xs H1 => xs.length ≤ sizeLine ∧ ∀ p, H1 p = none → Q (.ref p) (upd H1 p (.lst xs))) := propext Iff.rfl
theorem r_tup : tTup ts σ H Q = ts σ H (fun xs H1 => xs.length ≤ sizeLine ∧ ∀ p, H1 p = none → Q (.ref p) (upd H1 p (.tup xs))) := propext Iff.rfl
theorem r_cb {w : List V → Hp → VK → Prop} : tCB w ts σ H Q = ts σ H (fun vs H1 => w vs H1 Q) := propext Iff.rfl
theorem r_test {k : Bool → Hp → Prop} : tTest te σ H k = te σ H (fun x H' => ∃ b, x = .bl b ∧ k b H') := propext Iff.rfl
theorem r_b {k : Bool → Hp → Prop} : tB te σ H k = te σ H (fun x H' => ∃ b, x = .bl b ∧ k b H') := propext Iff.rfl
theorem r_not {k : Bool → Hp → Prop} : tNot c σ H k = c σ H (fun b H1 => k (!b) H1) := propext Iff.rfl
theorem r_notV : tNotV te σ H Q = te σ H (fun x H1 => ∃ b, x = .bl b ∧ Q (.bl (!b)) H1) := propext Iff.rfl
theorem r_andV : tAndV ta tb σ H Q = ta σ H (fun x H1 => ∃ b, x = .bl b ∧ andK tb σ Q b H1) := propext Iff.rfl
theorem r_orV : tOrV ta tb σ H Q = ta σ H (fun x H1 => ∃ b, x = .bl b ∧ orK tb σ Q b H1) := propext Iff.rfl
theorem r_isN : tIsN ta σ H Q = ta σ H (fun x H1 => Q (.bl (decide (x = .non))) H1) := propext Iff.rfl
theorem r_notN : tNotN ta σ H Q = ta σ H (fun x H1 => Q (.bl (!decide (x = .non))) H1) := propext Iff.rfl
theorem r_par {i j : Nat} : tPar i j ts D σ H = ts σ H (fun vs H1 => ∃ v w, vs = [v, w] ∧ D.nx ((σ.set i (some v)).set j (some w)) H1) := propext Iff.rfl
theorem r_sub {to ti : TE} {w : TSet} {k : L2.St → Hp → Prop} : gSub to ti w v σ H k = to σ H (fun o H1 => ti σ H1 (fun i H2 => w o i v H2 (fun H3 => k σ H3))) := propext Iff.rfl
theorem r_gtup {K : PySem.W.Frag} {n : Nat} {t : TGs} {k : L2.St → Hp → Prop} : gTup K n t v σ H k = ∃ a xs, v = .ref a ∧ SqT K H a xs ∧ xs.length = n ∧ t xs σ H k := propext Iff.rfl
theorem r_gnil {vs : List V} {k : L2.St → Hp → Prop} : gNil vs σ H k = (vs = [] ∧ k σ H) := propext Iff.rfl
theorem r_gcons {vs : List V} {t : TG} {u : TGs} {k : L2.St → Hp → Prop} : gCons t u vs σ H k = ∃ v r, vs = v :: r ∧ t v σ H (fun σ' H' => u r σ' H' k) := propext Iff.rfl
theorem r_sl {w : V → Option Int → Option Int → Hp → VK → Prop} {tl th : TO} : tSl w te tl th σ H Q = te σ H (fun x H1 => tl σ H1 (fun l H2 => th σ H2 (fun u H3 => w x l u H3 Q))) := propext Iff.rfl
theorem r_nopart {k : Option Int → Hp → Prop} : tNoPart σ H k = k none H := propext Iff.rfl
theorem r_part {k : Option Int → Hp → Prop} : tPart te σ H k = te σ H (fun x H1 => ∃ i, x = .int i ∧ k (some i) H1) := propext Iff.rfl
theorem r_bm {K : PySem.W.Frag} {T : String} {w : V → List V → Hp → VK → Prop} : tBM K T w te ts σ H Q = te σ H (fun x H1 => tyV K T x H1 ∧ ts σ H1 (fun xs H2 => w x xs H2 Q)) := propext Iff.rfl
theorem r_bm0 {K : PySem.W.Frag} {T : String} {w : V → List V → Hp → VK → Prop} : tBM0 K T w te σ H Q = te σ H (fun x H1 => tyV K T x H1 ∧ w x [] H1 Q) := propext Iff.rfl
theorem r_chain : tChain r r' ta tb tc σ H Q = ta σ H (fun x H1 => tb σ H1 (fun y H2 => r x y H2 (fun z H3 => ∃ k, z = .bl k ∧ andK (fun σ H Q => tc σ H (fun z H4 => r' y z H4 Q)) σ Q k H3))) := by
  unfold tChain andK
  rfl
theorem r_call {sp : Sp} {E : XK} : cCall sp E ts σ H Q = ts σ H (fun vs H1 => sp vs H1 Q E) := propext Iff.rfl
theorem r_callK {m : Nat} {sp : Sp} {E : XK} : cCallK m sp E ts tr σ H Q = ts σ H (fun vs H1 => tr σ H1 (fun zs H2 => zs.length = m ∧ sp (vs ++ zs) H2 Q E)) := propext Iff.rfl
theorem r_meth {C : Addr} {m : Str} {sp : Sp} {E : XK} : cMeth C m sp E te ts σ H Q = te σ H (fun x H1 => ∃ a dx fs, x = .ref a ∧ H1 a = some (.ins C dx fs) ∧ fs.lookup m = none ∧ ts σ H1 (fun vs H2 => sp (x :: vs) H2 Q E)) := propext Iff.rfl
theorem r_prop {C : Addr} {sp : Sp} {E : XK} : cProp C sp E te σ H Q = te σ H (fun x H1 => ∃ a dx fs, x = .ref a ∧ H1 a = some (.ins C dx fs) ∧ sp [.ref a] H1 Q E) := propext Iff.rfl
theorem r_make {C : Addr} {sp : Sp} {E : XK} : cMake C sp E ts σ H Q = ts σ H (fun vs H1 => ∀ x dx, H1 x = none → H1 dx = none → dx ≠ x → sp (.ref x :: vs) (upd (upd H1 dx (.own x)) x (.ins C dx [])) (fun v H2 => v = .non ∧ Q (.ref x) H2) E) := propext Iff.rfl
theorem upd_o {p q : Addr} {o : HO} (hp : H p = none) (hq : (H q).isSome = true) : upd H p o q = H q := by
  refine upd_ne (fun e => ?_)
  subst e
  rw [hp] at hq
  cases hq
theorem some_is {α : Type} {a : α} : (some a).isSome = true := rfl
end
theorem at0 {α : Type} {x0 : α} {xs : List α} : atI (x0 :: xs) 0 = some x0 := by
  unfold atI ixN
  rw [if_pos (by decide), if_pos (by simp only [List.length_cons]; omega)] <;> rfl
theorem at1 {α : Type} {x0 x1 : α} {xs : List α} : atI (x0 :: x1 :: xs) 1 = some x1 := by
  unfold atI ixN
  rw [if_pos (by decide), if_pos (by simp only [List.length_cons]; omega)] <;> rfl
theorem at2 {α : Type} {x0 x1 x2 : α} {xs : List α} : atI (x0 :: x1 :: x2 :: xs) 2 = some x2 := by
  unfold atI ixN
  rw [if_pos (by decide), if_pos (by simp only [List.length_cons]; omega)] <;> rfl
theorem at3 {α : Type} {x0 x1 x2 x3 : α} {xs : List α} : atI (x0 :: x1 :: x2 :: x3 :: xs) 3 = some x3 := by
  unfold atI ixN
  rw [if_pos (by decide), if_pos (by simp only [List.length_cons]; omega)] <;> rfl
theorem at4 {α : Type} {x0 x1 x2 x3 x4 : α} {xs : List α} : atI (x0 :: x1 :: x2 :: x3 :: x4 :: xs) 4 = some x4 := by
  unfold atI ixN
  rw [if_pos (by decide), if_pos (by simp only [List.length_cons]; omega)] <;> rfl
theorem at5 {α : Type} {x0 x1 x2 x3 x4 x5 : α} {xs : List α} : atI (x0 :: x1 :: x2 :: x3 :: x4 :: x5 :: xs) 5 = some x5 := by
  unfold atI ixN
  rw [if_pos (by decide), if_pos (by simp only [List.length_cons]; omega)] <;> rfl
theorem at6 {α : Type} {x0 x1 x2 x3 x4 x5 x6 : α} {xs : List α} : atI (x0 :: x1 :: x2 :: x3 :: x4 :: x5 :: x6 :: xs) 6 = some x6 := by
  unfold atI ixN
  rw [if_pos (by decide), if_pos (by simp only [List.length_cons]; omega)] <;> rfl
theorem at7 {α : Type} {x0 x1 x2 x3 x4 x5 x6 x7 : α} {xs : List α} : atI (x0 :: x1 :: x2 :: x3 :: x4 :: x5 :: x6 :: x7 :: xs) 7 = some x7 := by
  unfold atI ixN
  rw [if_pos (by decide), if_pos (by simp only [List.length_cons]; omega)] <;> rfl
theorem at8 {α : Type} {x0 x1 x2 x3 x4 x5 x6 x7 x8 : α} {xs : List α} : atI (x0 :: x1 :: x2 :: x3 :: x4 :: x5 :: x6 :: x7 :: x8 :: xs) 8 = some x8 := by
  unfold atI ixN
  rw [if_pos (by decide), if_pos (by simp only [List.length_cons]; omega)] <;> rfl
theorem at9 {α : Type} {x0 x1 x2 x3 x4 x5 x6 x7 x8 x9 : α} {xs : List α} : atI (x0 :: x1 :: x2 :: x3 :: x4 :: x5 :: x6 :: x7 :: x8 :: x9 :: xs) 9 = some x9 := by
  unfold atI ixN
  rw [if_pos (by decide), if_pos (by simp only [List.length_cons]; omega)] <;> rfl
theorem at10 {α : Type} {x0 x1 x2 x3 x4 x5 x6 x7 x8 x9 x10 : α} {xs : List α} : atI (x0 :: x1 :: x2 :: x3 :: x4 :: x5 :: x6 :: x7 :: x8 :: x9 :: x10 :: xs) 10 = some x10 := by
  unfold atI ixN
  rw [if_pos (by decide), if_pos (by simp only [List.length_cons]; omega)] <;> rfl
theorem at11 {α : Type} {x0 x1 x2 x3 x4 x5 x6 x7 x8 x9 x10 x11 : α} {xs : List α} : atI (x0 :: x1 :: x2 :: x3 :: x4 :: x5 :: x6 :: x7 :: x8 :: x9 :: x10 :: x11 :: xs) 11 = some x11 := by
  unfold atI ixN
  rw [if_pos (by decide), if_pos (by simp only [List.length_cons]; omega)] <;> rfl
theorem at12 {α : Type} {x0 x1 x2 x3 x4 x5 x6 x7 x8 x9 x10 x11 x12 : α} {xs : List α} : atI (x0 :: x1 :: x2 :: x3 :: x4 :: x5 :: x6 :: x7 :: x8 :: x9 :: x10 :: x11 :: x12 :: xs) 12 = some x12 := by
  unfold atI ixN
  rw [if_pos (by decide), if_pos (by simp only [List.length_cons]; omega)] <;> rfl
theorem at13 {α : Type} {x0 x1 x2 x3 x4 x5 x6 x7 x8 x9 x10 x11 x12 x13 : α} {xs : List α} : atI (x0 :: x1 :: x2 :: x3 :: x4 :: x5 :: x6 :: x7 :: x8 :: x9 :: x10 :: x11 :: x12 :: x13 :: xs) 13 = some x13 := by
  unfold atI ixN
  rw [if_pos (by decide), if_pos (by simp only [List.length_cons]; omega)] <;> rfl
theorem ix3_0 : ixN 3 0 = some 0 := rfl
theorem ix3_1 : ixN 3 1 = some 1 := rfl
theorem ix3_2 : ixN 3 2 = some 2 := rfl
theorem atI_of {α : Type} {xs : List α} {i : Int} (h0 : 0 ≤ i) (h1 : i < xs.length) : ∃ v, atI xs i = some v ∧ xs[i.toNat]? = some v := by
  unfold atI ixN
  rw [if_pos h0, if_pos h1]
  have : i.toNat < xs.length := by omega
  exact ⟨xs[i.toNat], by simp [this], by simp [this]⟩
theorem fits {n : Nat} (h : n ≤ 16777216) : n ≤ sizeLine := by
  rw [sizeLine_eq]
  exact h
/-! values: tracked lists and tuples -/
def rIxLH : R2 := fun x y H Q => ∃ p i, x = .ref p ∧ y = .int i ∧ ∃ xs, H p = some (.lst xs) ∧ ∃ v, atI xs i = some v ∧ Q v H
def rIxTH : R2 := fun x y H Q => ∃ p i, x = .ref p ∧ y = .int i ∧ ∃ xs, H p = some (.tup xs) ∧ ∃ v, atI xs i = some v ∧ Q v H
def rLenH : List V → Hp → VK → Prop := fun xs H Q => ∃ p, xs = [.ref p] ∧ ∃ ys, H p = some (.lst ys) ∧ Q (.int ys.length) H
def rLenTH : List V → Hp → VK → Prop := fun xs H Q => ∃ p, xs = [.ref p] ∧ ∃ ys, H p = some (.tup ys) ∧ Q (.int ys.length) H
section
variable {X : Cx}
theorem IxR.mono {r r' : R2} (h : IxR X r) (k : ∀ x y H Q, r' x y H Q → r x y H Q) : IxR X r' := fun v s pins sh σ H x y a b Q I r1 r2 q => h v s pins sh σ H x y a b Q I r1 r2 (k _ _ _ _ q)
theorem CallR.mono {f : Value} {r r' : List V → Hp → VK → Prop} (h : CallR X f r) (k : ∀ x H Q, r' x H Q → r x H Q) : CallR X f r' := fun pins s σ H xs us Q I rv q => h pins s σ H xs us Q I rv (k _ _ _ q)
theorem ix_lh : IxR X rIxLH := IxR.mono ix_list fun x y H Q ⟨p, i, e1, e2, xs, h, v, a, q⟩ => ⟨p, xs, i, v, e1, e2, SqL.of h, a, q⟩
theorem ix_th : IxR X rIxTH := IxR.mono ix_tup fun x y H Q ⟨p, i, e1, e2, xs, h, v, a, q⟩ => ⟨p, xs, i, v, e1, e2, SqT.of h, a, q⟩
theorem call_len_lh : CallR X (.builtin "len") rLenH := CallR.mono call_len fun x H Q ⟨p, e, ys, h, q⟩ => ⟨.ref p, ys.length, e, .inl ⟨ys, SqL.of h, rfl⟩, q⟩
theorem call_len_th : CallR X (.builtin "len") rLenTH := CallR.mono call_len fun x H Q ⟨p, e, ys, h, q⟩ => ⟨.ref p, ys.length, e, .inr ⟨ys, SqT.of h, rfl⟩, q⟩
end
theorem scal_ii {i j : Int} : scal (.int i) (.int j) = true := rfl
theorem scal_ss {i j : Str} : scal (.str i) (.str j) = true := rfl
theorem scal_bb {i j : Bool} : scal (.bl i) (.bl j) = true := rfl
theorem scal_is {i : Int} {j : Str} : scal (.int i) (.str j) = true := rfl
theorem scal_si {i : Str} {j : Int} : scal (.str i) (.int j) = true := rfl
theorem scal_ns {j : Str} : scal .non (.str j) = true := rfl
theorem scal_ni {j : Int} : scal .non (.int j) = true := rfl
theorem scal_in {j : Int} : scal (.int j) .non = true := rfl
theorem scal_sn {j : Str} : scal (.str j) .non = true := rfl
theorem scal_nn : scal .non .non = true := rfl
/-! new objects -/
def IsNew (H : Hp) (p : Addr) (o : HO) (H2 : Hp) : Prop := H p = none ∧ H2 = upd H p o
/-- all but a stays -/
def Oth (a : Addr) (H H' : Hp) : Prop := ∀ b o, b ≠ a → H b = some o → H' b = some o
theorem Oth.refl {a : Addr} {H : Hp} : Oth a H H := fun _ _ _ h => h
theorem Oth.trans {a : Addr} {H H1 H2 : Hp} (h : Oth a H H1) (k : Oth a H1 H2) : Oth a H H2 := fun b o n e => k b o n (h b o n e)
theorem Oth.of {a : Addr} {H H1 : Hp} (h : Same H H1) : Oth a H H1 := fun b o _ e => h b o e
theorem Oth.new {a p : Addr} {o : HO} {H H1 H2 : Hp} (h : Oth a H H1) (n : IsNew H1 p o H2) : Oth a H H2 := fun b x k e => by
  have z := h b x k e
  rw [n.2, upd_o n.1 (by rw [z]; rfl)]
  exact z
theorem Oth.set {a : Addr} {o : HO} {H H1 : Hp} (h : Oth a H H1) : Oth a H (upd H1 a o) := fun b x n e => by
  rw [upd_ne n]
  exact h b x n e
theorem Oth.fresh {a p : Addr} {o : HO} {H H1 : Hp} (h : Oth a H H1) (n : H p = none) : Oth a H (upd H1 p o) := fun b x k e => by
  rw [upd_ne (fun z => by subst z; rw [n] at e; cases e)]
  exact h b x k e
section
variable {H H1 H2 : Hp} {p b : Addr} {o x : HO}
theorem IsNew.at_ (n : IsNew H p o H2) : H2 p = some o := by rw [n.2]; exact upd_same
theorem IsNew.old (n : IsNew H p o H2) (h : H b = some x) : H2 b = some x := by
  rw [n.2, upd_o n.1 (by rw [h]; rfl)]
  exact h
theorem IsNew.same (n : IsNew H p o H2) : Same H H2 := fun _ _ h => n.old h
theorem IsNew.ne (n : IsNew H p o H2) (h : H b = some x) : b ≠ p := fun e => by
  subst e
  rw [n.1] at h
  cases h
theorem same_refl : Same H H := fun _ _ h => h
theorem same_trans (h : Same H H1) (k : Same H1 H2) : Same H H2 := fun b o e => k b o (h b o e)
end
def lcK (g : TG) (tt : TT) (te : TE) (vs : List Nat) (σ : L2.St) (Q : VK) (J : It) (H1 : Hp) : Prop := ∀ D, H1 D = none → ∃ W : Nat → Nat → Hp → Prop, (∃ m, W 0 m (upd H1 D (.lst []))) ∧ ∀ i m H, W i m H →
  (J.stop i H ∧ Q (.ref D) H) ∨ (J.go i H ∧ ∃ Nx : Hp → Prop, (∀ H', Nx H' → ∃ m', m' < m ∧ W (i + 1) m' H') ∧ ∀ x H', J.yld i H x H' → g x (wipe σ vs) H' fun σ2 H2 => wipe σ2 vs = wipe σ vs ∧ tt σ2 H2 fun b H3 =>
    if b = true then te σ2 H3 fun y H4 => ∃ acc, H4 D = some (.lst acc) ∧ acc.length < sizeLine ∧ Nx (upd H4 D (.lst (acc ++ [y]))) else Nx H3)
def forK (g : TG) (tb : TS) (D : Ends) (σ : L2.St) (J : It) (H1 : Hp) : Prop := ∃ W : Nat → Nat → L2.St → Hp → Prop, (∃ m, W 0 m σ H1) ∧ ∀ i m σ H, W i m σ H →
  (J.stop i H ∧ D.nx σ H) ∨ (J.go i H ∧ ∃ N : L2.St → Hp → Prop, (∀ σ' H', N σ' H' → ∃ m', m' < m ∧ W (i + 1) m' σ' H') ∧ ∀ x H', J.yld i H x H' → g x σ H' fun σ2 H2 => tb { D with nx := N, ct := N, bk := D.nx } σ2 H2)
section
variable {σ : L2.St} {H : Hp} {Q : VK} {D : Ends} {wi : TI} {g : TG} {tt : TT} {te : TE} {vs : List Nat} {tb : TS} {K : PySem.W.Frag} {ts : TA} {R : It → Hp → Prop}
theorem r_lc : tLc wi g tt te vs σ H Q = wi σ H (lcK g tt te vs σ Q) := propext Iff.rfl
theorem r_for : tFor wi g tb D σ H = wi σ H (forK g tb D σ) := propext Iff.rfl
theorem r_ilist : iList K te σ H R = te σ H (fun x H1 => ∃ a, x = .ref a ∧ (∃ xs, SqL K H1 a xs) ∧ R (Itl K a) H1) := propext Iff.rfl
theorem r_itup : iTup K te σ H R = te σ H (fun x H1 => ∃ a, x = .ref a ∧ (∃ xs, SqT K H1 a xs) ∧ R (Itt K a) H1) := propext Iff.rfl
theorem r_istr : iStr te σ H R = te σ H (fun x H1 => ∃ z, x = .str z ∧ R (Its z) H1) := propext Iff.rfl
theorem r_irng1 : iRng1 ts σ H R = ts σ H (fun vs H1 => ∃ j : Int, vs = [.int j] ∧ -(2 ^ 62) ≤ j ∧ j < 2 ^ 62 ∧ R (Itr 0 j.toNat) H1) := propext Iff.rfl
theorem r_irng2 : iRng2 ts σ H R = ts σ H (fun vs H1 => ∃ i j : Int, vs = [.int i, .int j] ∧ (-(2 ^ 62) ≤ i ∧ i < 2 ^ 62 ∧ -(2 ^ 62) ≤ j ∧ j < 2 ^ 62) ∧ R (Itr i (j - i).toNat) H1) := propext Iff.rfl
theorem r_ienum : iEnum K ts σ H R = ts σ H (fun vs H1 => ∃ a xs, vs = [.ref a] ∧ SqL K H1 a xs ∧ R (Ite K a) H1) := propext Iff.rfl
theorem r_ienumS : iEnumS ts σ H R = ts σ H (fun vs H1 => ∃ x, vs = [.str x] ∧ R (Ies x) H1) := propext Iff.rfl
theorem r_lst2 : tLst ts σ H Q = ts σ H (fun xs H1 => xs.length ≤ sizeLine ∧ ∀ p H2, IsNew H1 p (.lst xs) H2 → Q (.ref p) H2) := by
  unfold tLst
  congr 1
  funext xs H1
  apply propext
  constructor
  · rintro ⟨a, b⟩
    exact ⟨a, fun p H2 ⟨n, e⟩ => by subst e; exact b p n⟩
  · rintro ⟨a, b⟩
    exact ⟨a, fun p n => b p _ ⟨n, rfl⟩⟩
theorem r_tup2 : tTup ts σ H Q = ts σ H (fun xs H1 => xs.length ≤ sizeLine ∧ ∀ p H2, IsNew H1 p (.tup xs) H2 → Q (.ref p) H2) := by
  unfold tTup
  congr 1
  funext xs H1
  apply propext
  constructor
  · rintro ⟨a, b⟩
    exact ⟨a, fun p H2 ⟨n, e⟩ => by subst e; exact b p n⟩
  · rintro ⟨a, b⟩
    exact ⟨a, fun p n => b p _ ⟨n, rfl⟩⟩
/-- the new item goes to the list at D -/
def addK (D : Addr) (N : Hp → Prop) (y : V) (H4 : Hp) : Prop := ∃ acc, H4 D = some (.lst acc) ∧ acc.length < sizeLine ∧ N (upd H4 D (.lst (acc ++ [y])))
def lcN (D : Addr) (i : Nat) (Pv : Addr → Nat → List V → Hp → Prop) (H : Hp) : Prop := ∃ acc, H D = some (.lst acc) ∧ acc.length = i ∧ Pv D i acc H
theorem addK_mk {D : Addr} {i : Nat} {acc : List V} {y : V} {H4 : Hp} {Pv : Addr → Nat → List V → Hp → Prop} (e : H4 D = some (.lst acc)) (l : acc.length = i) (hi : i < 16777215) (p : Pv D (i + 1) (acc ++ [y]) (upd H4 D (.lst (acc ++ [y])))) : addK D (lcN D (i + 1) Pv) y H4 := by
  refine ⟨acc, e, ?_, acc ++ [y], upd_same, by simp [l], p⟩
  have := sizeLine_eq
  omega
/-- a comprehension over a range, no test -/
theorem lcK_rng {lo : Int} {n : Nat} (Pv : Addr → Nat → List V → Hp → Prop) (h0 : ∀ D H0, IsNew H D (.lst []) H0 → Pv D 0 [] H0)
    (hs : ∀ D i acc H1, H D = none → i < n → H1 D = some (.lst acc) → acc.length = i → Pv D i acc H1 → g (.int (lo + i)) (wipe σ vs) H1 fun σ2 H2 => wipe σ2 vs = wipe σ vs ∧ te σ2 H2 (addK D (lcN D (i + 1) Pv)))
    (hd : ∀ D acc H1, H D = none → H1 D = some (.lst acc) → acc.length = n → Pv D n acc H1 → Q (.ref D) H1) : lcK g tYes te vs σ Q (Itr lo n) H := by
  intro D nD
  refine lc_range (fun i H1 => lcN D i Pv H1) ⟨[], upd_same, rfl, h0 D _ ⟨nD, rfl⟩⟩ ?_ ?_
  · rintro i H1 hi ⟨acc, e, l, p⟩
    have z := hs D i acc H1 nD hi e l p
    have q : (fun σ2 H2 => wipe σ2 vs = wipe σ vs ∧ tYes σ2 H2 fun b H3 => if b = true then te σ2 H3 fun y H4 => ∃ acc, H4 D = some (.lst acc) ∧ acc.length < sizeLine ∧ lcN D (i + 1) Pv (upd H4 D (.lst (acc ++ [y]))) else lcN D (i + 1) Pv H3) = (fun σ2 H2 => wipe σ2 vs = wipe σ vs ∧ te σ2 H2 (addK D (lcN D (i + 1) Pv))) := by
      funext σ2 H2
      congr 1
    rw [q]
    exact z
  · rintro H1 ⟨acc, e, l, p⟩
    exact hd D acc H1 nD e l p
theorem idx_lt {α : Type} {xs : List α} {i : Nat} {x : α} (h : xs[i]? = some x) : i < xs.length := by
  by_cases z : i < xs.length
  · exact z
  · rw [List.getElem?_eq_none (by omega)] at h
    cases h
/-- .. over a list, no test -/
theorem lcK_lst {a : Addr} {xs : List V} (Pv : Addr → Nat → List V → Hp → Prop) (h0 : ∀ D H0, IsNew H D (.lst []) H0 → Pv D 0 [] H0) (hl : ∀ D i acc H1, H D = none → Pv D i acc H1 → SqL K H1 a xs)
    (hs : ∀ D i x acc H1, H D = none → xs[i]? = some x → H1 D = some (.lst acc) → acc.length = i → Pv D i acc H1 → g x (wipe σ vs) H1 fun σ2 H2 => wipe σ2 vs = wipe σ vs ∧ te σ2 H2 (addK D (lcN D (i + 1) Pv)))
    (hd : ∀ D acc H1, H D = none → H1 D = some (.lst acc) → acc.length = xs.length → Pv D xs.length acc H1 → Q (.ref D) H1) : lcK g tYes te vs σ Q (Itl K a) H := by
  intro D nD
  refine lc_list (K := K) (a := a) (xs := xs) (fun i H1 => lcN D i Pv H1) ⟨[], upd_same, rfl, h0 D _ ⟨nD, rfl⟩⟩ (fun i H1 _ ⟨acc, _, _, p⟩ => hl D i acc H1 nD p) ?_ ?_
  · rintro i x H1 hi ⟨acc, e, l, p⟩
    have z := hs D i x acc H1 nD hi e l p
    have q : (fun σ2 H2 => wipe σ2 vs = wipe σ vs ∧ tYes σ2 H2 fun b H3 => if b = true then te σ2 H3 fun y H4 => ∃ acc, H4 D = some (.lst acc) ∧ acc.length < sizeLine ∧ lcN D (i + 1) Pv (upd H4 D (.lst (acc ++ [y]))) else lcN D (i + 1) Pv H3) = (fun σ2 H2 => wipe σ2 vs = wipe σ vs ∧ te σ2 H2 (addK D (lcN D (i + 1) Pv))) := by
      funext σ2 H2
      congr 1
    rw [q]
    exact z
  · rintro H1 ⟨acc, e, l, p⟩
    exact hd D acc H1 nD e l p
theorem lcK_tup {a : Addr} {xs : List V} (Pv : Addr → Nat → List V → Hp → Prop) (h0 : ∀ D H0, IsNew H D (.lst []) H0 → Pv D 0 [] H0) (hl : ∀ D i acc H1, H D = none → Pv D i acc H1 → SqT K H1 a xs)
    (hs : ∀ D i x acc H1, H D = none → xs[i]? = some x → H1 D = some (.lst acc) → acc.length = i → Pv D i acc H1 → g x (wipe σ vs) H1 fun σ2 H2 => wipe σ2 vs = wipe σ vs ∧ te σ2 H2 (addK D (lcN D (i + 1) Pv)))
    (hd : ∀ D acc H1, H D = none → H1 D = some (.lst acc) → acc.length = xs.length → Pv D xs.length acc H1 → Q (.ref D) H1) : lcK g tYes te vs σ Q (Itt K a) H := by
  intro D nD
  refine lc_tup (K := K) (a := a) (xs := xs) (fun i H1 => lcN D i Pv H1) ⟨[], upd_same, rfl, h0 D _ ⟨nD, rfl⟩⟩ (fun i H1 _ ⟨acc, _, _, p⟩ => hl D i acc H1 nD p) ?_ ?_
  · rintro i x H1 hi ⟨acc, e, l, p⟩
    have z := hs D i x acc H1 nD hi e l p
    have q : (fun σ2 H2 => wipe σ2 vs = wipe σ vs ∧ tYes σ2 H2 fun b H3 => if b = true then te σ2 H3 fun y H4 => ∃ acc, H4 D = some (.lst acc) ∧ acc.length < sizeLine ∧ lcN D (i + 1) Pv (upd H4 D (.lst (acc ++ [y]))) else lcN D (i + 1) Pv H3) = (fun σ2 H2 => wipe σ2 vs = wipe σ vs ∧ te σ2 H2 (addK D (lcN D (i + 1) Pv))) := by
      funext σ2 H2
      congr 1
    rw [q]
    exact z
  · rintro H1 ⟨acc, e, l, p⟩
    exact hd D acc H1 nD e l p
theorem forK_rng {lo : Int} {n : Nat} (Pv : Nat → L2.St → Hp → Prop) (h0 : Pv 0 σ H)
    (hs : ∀ i σ H, i < n → Pv i σ H → g (.int (lo + i)) σ H fun σ2 H2 => tb { D with nx := Pv (i + 1), ct := Pv (i + 1), bk := D.nx } σ2 H2) (hd : ∀ σ H, Pv n σ H → D.nx σ H) : forK g tb D σ (Itr lo n) H := for_range Pv h0 hs hd
theorem forK_lst {a : Addr} {xs : List V} (Pv : Nat → L2.St → Hp → Prop) (h0 : Pv 0 σ H) (hl : ∀ i σ H, i ≤ xs.length → Pv i σ H → SqL K H a xs)
    (hs : ∀ i x σ H, xs[i]? = some x → Pv i σ H → g x σ H fun σ2 H2 => tb { D with nx := Pv (i + 1), ct := Pv (i + 1), bk := D.nx } σ2 H2) (hd : ∀ σ H, Pv xs.length σ H → D.nx σ H) : forK g tb D σ (Itl K a) H := for_list Pv h0 hl hs hd
end
section
variable {σ : L2.St} {H : Hp} {Q : VK} {D : Ends} {g : TG} {te : TE} {vs : List Nat} {tb : TS} {J : It} {n : Nat} {G : Hp → Prop} {Y : Nat → Hp → V → Hp → Prop}
/-- a comprehension over anything that walks, no test -/
theorem lcK_it (w : Walk J n G Y) (Pv : Addr → Nat → List V → Hp → Prop) (h0 : ∀ D H0, IsNew H D (.lst []) H0 → Pv D 0 [] H0) (hG : ∀ D i acc H1, H D = none → i ≤ n → H1 D = some (.lst acc) → Pv D i acc H1 → G H1)
    (hs : ∀ D i x acc H1 H2, H D = none → i < n → H1 D = some (.lst acc) → acc.length = i → Pv D i acc H1 → Y i H1 x H2 → g x (wipe σ vs) H2 fun σ2 H3 => wipe σ2 vs = wipe σ vs ∧ te σ2 H3 (addK D (lcN D (i + 1) Pv)))
    (hd : ∀ D acc H1, H D = none → H1 D = some (.lst acc) → acc.length = n → Pv D n acc H1 → Q (.ref D) H1) : lcK g tYes te vs σ Q J H := by
  intro D nD
  refine lc_it w (fun i H1 => lcN D i Pv H1) ⟨[], upd_same, rfl, h0 D _ ⟨nD, rfl⟩⟩ (fun i H1 hi ⟨acc, e, _, p⟩ => hG D i acc H1 nD hi e p) ?_ ?_
  · rintro i x H1 H2 hi ⟨acc, e, l, p⟩ y
    have z := hs D i x acc H1 H2 nD hi e l p y
    have q : (fun σ2 H2 => wipe σ2 vs = wipe σ vs ∧ tYes σ2 H2 fun b H3 => if b = true then te σ2 H3 fun y H4 => ∃ acc, H4 D = some (.lst acc) ∧ acc.length < sizeLine ∧ lcN D (i + 1) Pv (upd H4 D (.lst (acc ++ [y]))) else lcN D (i + 1) Pv H3) = (fun σ2 H2 => wipe σ2 vs = wipe σ vs ∧ te σ2 H2 (addK D (lcN D (i + 1) Pv))) := by
      funext σ2 H2
      congr 1
    rw [q]
    exact z
  · rintro H1 ⟨acc, e, l, p⟩
    exact hd D acc H1 nD e l p
theorem forK_it (w : Walk J n G Y) (Pv : Nat → L2.St → Hp → Prop) (h0 : Pv 0 σ H) (hG : ∀ i σ H, i ≤ n → Pv i σ H → G H)
    (hs : ∀ i x σ H H', i < n → Pv i σ H → Y i H x H' → g x σ H' fun σ2 H2 => tb { D with nx := Pv (i + 1), ct := Pv (i + 1), bk := D.nx } σ2 H2) (hd : ∀ σ H, Pv n σ H → D.nx σ H) : forK g tb D σ J H := for_it w Pv h0 hG hs hd
theorem r_fld {K : PySem.W.Frag} {ta : TE} {f : Str} : tFld K ta f σ H Q = ta σ H (fun x H1 => ∃ a, x = .ref a ∧ ∃ C dx fs, H1 a = some (.ins C dx fs) ∧ Cls K C ∧ NoAttr K C f ∧ ∃ v, fs.lookup f = some v ∧ Q v H1) := by
  unfold tFld
  congr 1
  funext x H1
  apply propext
  constructor
  · rintro ⟨a, C, dx, fs, v, e, h, c, n, l, q⟩
    exact ⟨a, e, C, dx, fs, h, c, n, v, l, q⟩
  · rintro ⟨a, e, C, dx, fs, h, c, n, v, l, q⟩
    exact ⟨a, C, dx, fs, v, e, h, c, n, l, q⟩
end
section
variable {σ : L2.St} {H : Hp} {Q : VK} {g : TG} {te : TE} {vs : List Nat} {K : PySem.W.Frag} {a : Addr} {xs : List V} {J : It} {n : Nat}
theorem same_upd {D : Addr} {H1 : Hp} {o : HO} (nD : H D = none) (s : Same H H1) : Same H (upd H1 D o) := fun b x e => by
  rw [upd_ne (fun z => by subst z; rw [nD] at e; cases e)]
  exact s b x e
theorem r_m1 {r : V → List V → Hp → VK → Prop} {to : TE} : tM1 r to te σ H Q = to σ H (fun x H1 => (∃ a, x = .str a) ∧ te σ H1 (fun y H2 => r x [y] H2 Q)) := propext Iff.rfl
theorem r_m0 {r : V → List V → Hp → VK → Prop} {to : TE} : tM0 r to σ H Q = to σ H (fun x H1 => (∃ a, x = .str a) ∧ r x [] H1 Q) := propext Iff.rfl
/-- [e for x in xs], e makes new objects at most -/
theorem lcK_map {G : Hp → Prop} (w : Walk J xs.length G (YAt xs)) (hn : xs.length ≤ 16777215) (hG : ∀ H1, Same H H1 → G H1) (f : V → V)
    (hs : ∀ (i : Nat) (x : V) (H1 : Hp) (k : VK), xs[i]? = some x → Same H H1 → (∀ H2, Same H1 H2 → k (f x) H2) → g x (wipe σ vs) H1 fun σ2 H2 => wipe σ2 vs = wipe σ vs ∧ te σ2 H2 k)
    (hd : ∀ D H1, Same H H1 → H D = none → H1 D = some (.lst (xs.map f)) → Q (.ref D) H1) : lcK g tYes te vs σ Q J H := by
  refine lcK_it w (fun D i acc H1 => Same H H1 ∧ acc = (xs.map f).take i) (fun D H0 n0 => ⟨n0.same, rfl⟩) (fun D i acc H1 nD hi e p => hG H1 p.1) ?_ ?_
  · rintro D i x acc H1 H2 nD hi hD hl ⟨sm, ea⟩ ⟨rfl, hx⟩
    refine hs i x H2 _ hx sm fun H3 s3 => addK_mk (s3 _ _ hD) hl (by omega) ⟨same_upd nD (same_trans sm s3), ?_⟩
    rw [ea, List.take_add_one, List.getElem?_map, hx]
    rfl
  · rintro D acc H1 nD hD hl ⟨sm, ea⟩
    rw [List.take_of_length_le (by simp)] at ea
    rw [ea] at hD
    exact hd D H1 sm nD hD
theorem lcK_mapT (hx : H a = some (.tup xs)) (hn : xs.length ≤ 16777215) (f : V → V)
    (hs : ∀ (i : Nat) (x : V) (H1 : Hp) (k : VK), xs[i]? = some x → Same H H1 → (∀ H2, Same H1 H2 → k (f x) H2) → g x (wipe σ vs) H1 fun σ2 H2 => wipe σ2 vs = wipe σ vs ∧ te σ2 H2 k)
    (hd : ∀ D H1, Same H H1 → H D = none → H1 D = some (.lst (xs.map f)) → Q (.ref D) H1) : lcK g tYes te vs σ Q (Itt K a) H :=
  lcK_map walk_tup hn (fun H1 s => SqT.of (s _ _ hx)) f hs hd
theorem lcK_mapL (hx : H a = some (.lst xs)) (hn : xs.length ≤ 16777215) (f : V → V)
    (hs : ∀ (i : Nat) (x : V) (H1 : Hp) (k : VK), xs[i]? = some x → Same H H1 → (∀ H2, Same H1 H2 → k (f x) H2) → g x (wipe σ vs) H1 fun σ2 H2 => wipe σ2 vs = wipe σ vs ∧ te σ2 H2 k)
    (hd : ∀ D H1, Same H H1 → H D = none → H1 D = some (.lst (xs.map f)) → Q (.ref D) H1) : lcK g tYes te vs σ Q (Itl K a) H :=
  lcK_map walk_list hn (fun H1 s => SqL.of (s _ _ hx)) f hs hd
end
/-! values whose result is a new object -/
def rCatN : R2 := fun x y H Q => ∃ l b, x = .ref l ∧ y = .ref b ∧ ∃ xs, H l = some (.lst xs) ∧ ∃ zs, H b = some (.lst zs) ∧ xs.length + zs.length ≤ sizeLine ∧ ∀ p H2, IsNew H p (.lst (xs ++ zs)) H2 → Q (.ref p) H2
def rTupOfN : List V → Hp → VK → Prop := fun xs H Q => ∃ p, xs = [.ref p] ∧ ∃ ys, H p = some (.lst ys) ∧ ∀ l H2, IsNew H l (.tup ys) H2 → Q (.ref l) H2
def rLstOfN : List V → Hp → VK → Prop := fun xs H Q => ∃ p, xs = [.ref p] ∧ ∃ ys, H p = some (.lst ys) ∧ ∀ l H2, IsNew H l (.lst ys) H2 → Q (.ref l) H2
def rSlLN : V → Option Int → Option Int → Hp → VK → Prop := fun x lo hi H Q => ∃ a, x = .ref a ∧ ∃ xs, H a = some (.lst xs) ∧ ∀ p H2, IsNew H p (.lst (cutV xs lo hi)) H2 → Q (.ref p) H2
/-- a tuple's part: a new tuple, or itself -/
def rSlTN : V → Option Int → Option Int → Hp → VK → Prop := fun x lo hi H Q => ∃ a, x = .ref a ∧ ∃ xs, H a = some (.tup xs) ∧ ∀ p H2, Same H H2 → H2 p = some (.tup (cutV xs lo hi)) → Q (.ref p) H2
section
variable {X : Cx}
theorem OpR.mono {f : Value → Value → Sem Value} {r r' : R2} (h : OpR X f r) (k : ∀ x y H Q, r' x y H Q → r x y H Q) : OpR X f r' := fun pins s σ H x y a b Q I r1 r2 q => h pins s σ H x y a b Q I r1 r2 (k _ _ _ _ q)
theorem SlR.mono {r r' : V → Option Int → Option Int → Hp → VK → Prop} (h : SlR X r) (k : ∀ x lo hi H Q, r' x lo hi H Q → r x lo hi H Q) : SlR X r' := fun pins s σ H x v vl vu lo hi sl Q I rx hs pl pu q => h pins s σ H x v vl vu lo hi sl Q I rx hs pl pu (k _ _ _ _ _ q)
theorem op_cat_n : OpR X (binaryOp .Add) rCatN := OpR.mono op_cat fun x y H Q ⟨l, b, e1, e2, xs, h1, zs, h2, hz, q⟩ => ⟨l, b, xs, zs, e1, e2, h1, h2, hz, fun p n => q p _ ⟨n, rfl⟩⟩
theorem call_tuple_n : CallR X (.type "tuple") rTupOfN := CallR.mono call_tuple_of fun x H Q ⟨p, e, ys, h, q⟩ => ⟨p, ys, e, .inl ⟨SqL.of h, fun l n => q l _ ⟨n, rfl⟩⟩⟩
theorem call_list_n : CallR X (.type "list") rLstOfN := CallR.mono call_list_of fun x H Q ⟨p, e, ys, h, q⟩ => ⟨p, ys, e, .inl (SqL.of h), fun l n => q l _ ⟨n, rfl⟩⟩
theorem sl_list_n : SlR X rSlLN := SlR.mono sl_list fun x lo hi H Q ⟨a, e, xs, h, q⟩ => ⟨a, xs, e, SqL.of h, fun p n => q p _ ⟨n, rfl⟩⟩
theorem cut_whole {xs : List V} {lo hi : Option Int} (h : HT.sIx xs.length 0 lo = 0 ∧ HT.sIx xs.length xs.length hi = xs.length) : cutV xs lo hi = xs := by
  unfold cutV
  rw [h.1, h.2]
  simp
theorem sl_tup_n : SlR X rSlTN := SlR.mono sl_tupA fun x lo hi H Q ⟨a, e, xs, h, q⟩ => ⟨a, xs, e, SqT.of h, fun w => q a H same_refl (by rw [cut_whole w]; exact h), fun _ p n => q p _ (IsNew.same ⟨n, rfl⟩) upd_same⟩
end
/-! exceptions leave by the def's own way -/
section
variable {P : Program} {w : World} {K : PySem.W.Frag} {mg : Str → Option Value} {base : Heap} {N : List Str} {qual : Str} {scope : Scope} {f : Addr} {cd : Value} {A : Around} {outer : List Env} {s : Shared} {H : Hp} {E : XK}
theorem cxK {CX : CXT} : (cxOf CX P w K mg base N qual scope f cd A outer s H E).K = K := rfl
theorem passD : Passes (L2.CX P w) (cxOf (L2.CX P w) P w K mg base N qual scope f cd A outer s H E) E := passes_call (takes_of rfl rfl rfl rfl) (fun _ _ _ _ h => h)
theorem passO : PassesOwn (model P w) (cxOf (L2.CX P w) P w K mg base N qual scope f cd A outer s H E).A (cxOf (L2.CX P w) P w K mg base N qual scope f cd A outer s H E).env (cxOf (L2.CX P w) P w K mg base N qual scope f cd A outer s H E).xe := passes_of rfl
end
end FR

/-! Data: ints, texts, flat lists and tuples of them. -/
namespace FR
open PySem PySem.Spec PyProof.Rows L2 FL TL
section
variable {K : PySem.W.Frag} {H : Hp}
theorem dp_ints : ∀ ns : List Int, DpAll K H (ns.map V.int) (ns.map PyData.int)
  | [] => .nil
  | n :: r => .cons (.int n) (dp_ints r)
theorem dp_strs : ∀ ns : List Str, DpAll K H (ns.map V.str) (ns.map PyData.str)
  | [] => .nil
  | n :: r => .cons (.str n) (dp_strs r)
theorem dp_bls : ∀ ns : List Bool, DpAll K H (ns.map V.bl) (ns.map PyData.bool)
  | [] => .nil
  | n :: r => .cons (.bl n) (dp_bls r)
theorem lay_ints : ∀ ns : List Int, PyData.canLayAll0 (ns.map PyData.int) = true
  | [] => by simp [PyData.canLayAll0]
  | n :: r => by simp [PyData.canLayAll0, PyData.canLay0, lay_ints r]
theorem lay_bls : ∀ ns : List Bool, PyData.canLayAll0 (ns.map PyData.bool) = true
  | [] => by simp [PyData.canLayAll0]
  | n :: r => by simp [PyData.canLayAll0, PyData.canLay0, lay_bls r]
theorem lay_strs : ∀ ns : List Str, (∀ x ∈ ns, PyData.strOk x = true) → PyData.canLayAll0 (ns.map PyData.str) = true
  | [], _ => by simp [PyData.canLayAll0]
  | n :: r, h => by simp [PyData.canLayAll0, PyData.canLay0, lay_strs r (fun x hx => h x (List.mem_cons_of_mem _ hx)), h n List.mem_cons_self]
theorem depth_flat : ∀ ds : List PyData, (∀ d ∈ ds, d.depth = 0) → PyData.depthAll ds = 0
  | [], _ => by simp [PyData.depthAll]
  | d :: r, h => by simp [PyData.depthAll, depth_flat r (fun x hx => h x (List.mem_cons_of_mem _ hx)), h d List.mem_cons_self]
theorem shaped_list {ds : List PyData} (h : PyData.canLayAll0 ds = true) (k : PyData.depthAll ds ≤ 63) : SeqAt.shaped (.list ds) = true := by
  unfold SeqAt.shaped
  simp [PyData.canLay0, h, PyData.depth]
  omega
theorem shaped_tuple {ds : List PyData} (h : PyData.canLayAll0 ds = true) (k : PyData.depthAll ds ≤ 63) : SeqAt.shaped (.tuple ds) = true := by
  unfold SeqAt.shaped
  simp [PyData.canLay0, h, PyData.depth]
  omega
theorem depth_ints (ns : List Int) : PyData.depthAll (ns.map PyData.int) = 0 := depth_flat _ fun d hd => by
  obtain ⟨n, _, rfl⟩ := List.mem_map.mp hd
  simp [PyData.depth]
theorem depth_strs (ns : List Str) : PyData.depthAll (ns.map PyData.str) = 0 := depth_flat _ fun d hd => by
  obtain ⟨n, _, rfl⟩ := List.mem_map.mp hd
  simp [PyData.depth]
theorem depth_bls (ns : List Bool) : PyData.depthAll (ns.map PyData.bool) = 0 := depth_flat _ fun d hd => by
  obtain ⟨n, _, rfl⟩ := List.mem_map.mp hd
  simp [PyData.depth]
theorem shaped_ints (ns : List Int) : SeqAt.shaped (.list (ns.map PyData.int)) = true := shaped_list (lay_ints ns) (by rw [depth_ints]; decide)
theorem shaped_bls (ns : List Bool) : SeqAt.shaped (.list (ns.map PyData.bool)) = true := shaped_list (lay_bls ns) (by rw [depth_bls]; decide)
theorem shaped_strs {ns : List Str} (h : ∀ x ∈ ns, PyData.strOk x = true) : SeqAt.shaped (.list (ns.map PyData.str)) = true := shaped_list (lay_strs ns h) (by rw [depth_strs]; decide)
theorem shapedT_strs {ns : List Str} (h : ∀ x ∈ ns, PyData.strOk x = true) : SeqAt.shaped (.tuple (ns.map PyData.str)) = true := shaped_tuple (lay_strs ns h) (by rw [depth_strs]; decide)
theorem eqvAll_strs : ∀ xs ys : List Str, PyData.eqvAll (xs.map PyData.str) (ys.map PyData.str) = decide (xs = ys)
  | [], [] => by simp [PyData.eqvAll]
  | [], _ :: _ => by simp [PyData.eqvAll]
  | _ :: _, [] => by simp [PyData.eqvAll]
  | x :: xs, y :: ys => by
    simp only [List.map_cons, PyData.eqvAll, PyData.eqv, eqvAll_strs xs ys, List.cons.injEq]
    by_cases h : x = y <;> by_cases k : xs = ys <;> simp [h, k]
theorem eqvAll_ints : ∀ xs ys : List Int, PyData.eqvAll (xs.map PyData.int) (ys.map PyData.int) = decide (xs = ys)
  | [], [] => by simp [PyData.eqvAll]
  | [], _ :: _ => by simp [PyData.eqvAll]
  | _ :: _, [] => by simp [PyData.eqvAll]
  | x :: xs, y :: ys => by
    simp only [List.map_cons, PyData.eqvAll, PyData.eqv, eqvAll_ints xs ys, List.cons.injEq]
    by_cases h : x = y <;> by_cases k : xs = ys <;> simp [h, k]
theorem eqv_strs (xs ys : List Str) : PyData.eqv (.list (xs.map PyData.str)) (.list (ys.map PyData.str)) = decide (xs = ys) := by
  rw [← eqvAll_strs]
  simp [PyData.eqv]
theorem eqvT_strs (xs ys : List Str) : PyData.eqv (.tuple (xs.map PyData.str)) (.tuple (ys.map PyData.str)) = decide (xs = ys) := by
  rw [← eqvAll_strs]
  simp [PyData.eqv]
theorem eqv_ints (xs ys : List Int) : PyData.eqv (.list (xs.map PyData.int)) (.list (ys.map PyData.int)) = decide (xs = ys) := by
  rw [← eqvAll_ints]
  simp [PyData.eqv]
/-- lists and tuples of texts compared: tracked -/
theorem eqD_strL {a b : Addr} {xs ys : List Str} (ha : H a = some (.lst (xs.map V.str))) (hb : H b = some (.lst (ys.map V.str))) (hx : ∀ x ∈ xs, PyData.strOk x = true) (hy : ∀ x ∈ ys, PyData.strOk x = true) {Q : VK} (q : Q (.bl (decide (xs = ys))) H) : rEqD K (.ref a) (.ref b) H Q :=
  ⟨_, _, .lst (SqL.of ha) (dp_strs _), .lst (SqL.of hb) (dp_strs _), shaped_strs hx, shaped_strs hy, by rw [eqv_strs]; exact q⟩
theorem neD_strL {a b : Addr} {xs ys : List Str} (ha : H a = some (.lst (xs.map V.str))) (hb : H b = some (.lst (ys.map V.str))) (hx : ∀ x ∈ xs, PyData.strOk x = true) (hy : ∀ x ∈ ys, PyData.strOk x = true) {Q : VK} (q : Q (.bl (!decide (xs = ys))) H) : rNeD K (.ref a) (.ref b) H Q :=
  ⟨_, _, .lst (SqL.of ha) (dp_strs _), .lst (SqL.of hb) (dp_strs _), shaped_strs hx, shaped_strs hy, by rw [eqv_strs]; exact q⟩
theorem eqD_strT {a b : Addr} {xs ys : List Str} (ha : H a = some (.tup (xs.map V.str))) (hb : H b = some (.tup (ys.map V.str))) (hx : ∀ x ∈ xs, PyData.strOk x = true) (hy : ∀ x ∈ ys, PyData.strOk x = true) {Q : VK} (q : Q (.bl (decide (xs = ys))) H) : rEqD K (.ref a) (.ref b) H Q :=
  ⟨_, _, .tup (SqT.of ha) (dp_strs _), .tup (SqT.of hb) (dp_strs _), shapedT_strs hx, shapedT_strs hy, by rw [eqvT_strs]; exact q⟩
theorem neD_strT {a b : Addr} {xs ys : List Str} (ha : H a = some (.tup (xs.map V.str))) (hb : H b = some (.tup (ys.map V.str))) (hx : ∀ x ∈ xs, PyData.strOk x = true) (hy : ∀ x ∈ ys, PyData.strOk x = true) {Q : VK} (q : Q (.bl (!decide (xs = ys))) H) : rNeD K (.ref a) (.ref b) H Q :=
  ⟨_, _, .tup (SqT.of ha) (dp_strs _), .tup (SqT.of hb) (dp_strs _), shapedT_strs hx, shapedT_strs hy, by rw [eqvT_strs]; exact q⟩
theorem isi_ty {x : V} {a b : String} {r : Bool} {Q : VK} (t : TyOf K H x (.type a)) (h : kitB a b = some r) (q : Q (.bl r) H) : rIsi K [x, .ty b] H Q := ⟨x, .ty b, .type a, .type b, r, rfl, .ty b, .base t, kit_ty h, q⟩
theorem isi_own {a : Addr} {C B : Addr} {r : Bool} {Q : VK} (t : TyOf K H (.ref a) (.ref C)) (h : PySem.W.kitOne K (.ref C) (.ref B) = some r) (q : Q (.bl r) H) : rIsi K [.ref a, .ref B] H Q := ⟨.ref a, .ref B, .ref C, .ref B, r, rfl, .own B, .base t, h, q⟩
end
theorem ok_app {a b : Str} (h : PyData.strOk a = true) (k : PyData.strOk b = true) : PyData.strOk (a ++ b) = true := by
  have e : (a ++ b).cps = a.cps ++ b.cps := rfl
  unfold PyData.strOk at *
  rw [e, Array.all_append, h, k]
  rfl
theorem ok_list {a : Str} : PyData.strOk a = a.cps.toList.all (fun c => decide (c < 0x110000)) := by
  unfold PyData.strOk
  simp
theorem ok_cut {z : Str} (h : PyData.strOk z = true) (lo hi : Option Int) : PyData.strOk (cutS z lo hi) = true := by
  rw [ok_list] at *
  rw [List.all_eq_true] at *
  intro c hc
  refine h c ?_
  unfold cutS at hc
  exact List.mem_of_mem_drop (List.mem_of_mem_take (by simpa using hc))
theorem ok_tl {a : Str} : PyData.strOk a = (tl a).all (fun c => decide (c < 0x110000)) := ok_list
theorem ok_joinL {S : List Nat} (hS : S.all (fun c => decide (c < 0x110000)) = true) : ∀ ps : List (List Nat), (∀ p ∈ ps, p.all (fun c => decide (c < 0x110000)) = true) → (joinL S ps).all (fun c => decide (c < 0x110000)) = true
  | [], _ => rfl
  | [p], h => h p List.mem_cons_self
  | p :: q :: r, h => by
    have ih := ok_joinL hS (q :: r) fun x hx => h x (List.mem_cons_of_mem _ hx)
    have e : joinL S (p :: q :: r) = p ++ (S ++ joinL S (q :: r)) := rfl
    rw [e, List.all_append, List.all_append, ih, hS, h p List.mem_cons_self]
    rfl
theorem ok_join {y : Str} {ps : List Str} (hy : PyData.strOk y = true) (h : ∀ p ∈ ps, PyData.strOk p = true) : PyData.strOk (Txt.join y ps) = true := by
  rw [join_eq, ok_tl, tl_join]
  refine ok_joinL (by rw [← ok_tl]; exact hy) _ fun p hp => ?_
  obtain ⟨x, hx, rfl⟩ := List.mem_map.mp hp
  rw [← ok_tl]
  exact h x hx
theorem cut_front {xs : List V} : cutV xs none (some (-1)) = xs.take (xs.length - 1) := by
  unfold cutV HT.sIx
  simp only [List.drop_zero, Nat.sub_zero]
  congr 1
  simp
  omega
theorem cut_all {xs : List V} : cutV xs none none = xs := by
  unfold cutV HT.sIx
  simp
theorem atI_last {α : Type} {xs : List α} {v : α} (h : xs[xs.length - 1]? = some v) : atI xs (-1) = some v := by
  have hl : xs.length - 1 < xs.length := idx_lt h
  unfold atI ixN
  rw [if_neg (by decide), if_pos (by omega)]
  have e : ((-1 : Int) + (xs.length : Int)).toNat = xs.length - 1 := by omega
  rw [e]
  exact h
theorem len_app {a b : Str} : (a ++ b).length = a.length + b.length := by
  show (a.cps ++ b.cps).size = _
  rw [Array.size_append] <;> rfl
theorem len_cut (z : Str) (lo hi : Option Int) : (cutS z lo hi).length ≤ z.length := by
  unfold cutS
  show (List.toArray _).size ≤ z.cps.size
  simp
  omega

/-! ### what repr asks -/
structure Rp (w k : Nat) (d : PyData) : Prop where
  sh : d.showable = true
  nd : d.hasDict = false
  ls : d.leavesShort 13 = true
  wt : d.weight ≤ w
  dp : d.depth ≤ k
structure RpA (w k : Nat) (ds : List PyData) : Prop where
  sh : PyData.showableAll ds = true
  nd : PyData.hasDictAll ds = false
  ls : PyData.leavesShortAll 13 ds = true
  wt : PyData.weightAll ds ≤ w
  dp : PyData.depthAll ds ≤ k
theorem RpA.nil : RpA 0 0 [] := ⟨by simp [PyData.showableAll], by simp [PyData.hasDictAll], by simp [PyData.leavesShortAll], by simp [PyData.weightAll], by simp [PyData.depthAll]⟩
theorem RpA.cons {w k w' k' : Nat} {d : PyData} {ds : List PyData} (h : Rp w k d) (g : RpA w' k' ds) : RpA (w + 1 + w') (max k k') (d :: ds) := by
  refine ⟨by simp [PyData.showableAll, h.sh, g.sh], by simp [PyData.hasDictAll, h.nd, g.nd], by simp [PyData.leavesShortAll, h.ls, g.ls], ?_, ?_⟩
  · have := h.wt; have := g.wt; simp [PyData.weightAll]; omega
  · have := h.dp; have := g.dp; simp [PyData.depthAll]; omega
theorem Rp.list {w k : Nat} {ds : List PyData} (h : RpA w k ds) : Rp w (k + 1) (.list ds) := ⟨by simp [PyData.showable, h.sh], by simp [PyData.hasDict, h.nd], by simp [PyData.leavesShort, h.ls], by simp [PyData.weight, h.wt], by simp [PyData.depth, h.dp]⟩
theorem Rp.tuple {w k : Nat} {ds : List PyData} (h : RpA w k ds) : Rp w (k + 1) (.tuple ds) := ⟨by simp [PyData.showable, h.sh], by simp [PyData.hasDict, h.nd], by simp [PyData.leavesShort, h.ls], by simp [PyData.weight, h.wt], by simp [PyData.depth, h.dp]⟩
theorem Rp.none : Rp 0 0 .none := ⟨by simp [PyData.showable], by simp [PyData.hasDict], by simp [PyData.leavesShort], by simp [PyData.weight], by simp [PyData.depth]⟩
theorem Rp.bool (b : Bool) : Rp 0 0 (.bool b) := ⟨by simp [PyData.showable], by simp [PyData.hasDict], by simp [PyData.leavesShort], by simp [PyData.weight], by simp [PyData.depth]⟩
theorem Rp.str {z : Str} {w : Nat} (h : PyData.strOk z = true) (l : z.length ≤ w) : Rp w 0 (.str z) := by
  refine ⟨by simp [PyData.showable], by simp [PyData.hasDict], ?_, by simp only [PyData.weight]; exact l, by simp [PyData.depth]⟩
  rw [ok_list, List.all_eq_true] at h
  simp only [PyData.leavesShort]
  rw [List.all_eq_true]
  intro c hc
  have := of_decide_eq_true (h c hc)
  exact decide_eq_true (by omega)
theorem RpA.strs {m : Nat} : ∀ {ns : List Str}, (∀ x ∈ ns, PyData.strOk x = true ∧ x.length ≤ m) → RpA (ns.length * (m + 1)) 0 (ns.map PyData.str)
  | [], _ => by simpa using RpA.nil
  | n :: r, h => by
    have h1 := RpA.strs (ns := r) fun x hx => h x (List.mem_cons_of_mem _ hx)
    have h2 := Rp.str (h n List.mem_cons_self).1 (h n List.mem_cons_self).2
    have h3 := RpA.cons h2 h1
    simp only [List.length_cons, List.map_cons]
    refine ⟨h3.sh, h3.nd, h3.ls, ?_, h3.dp⟩
    have := h3.wt
    rw [Nat.add_mul]
    omega
theorem repr_of {K : PySem.W.Frag} {H : Hp} {x : V} {d : PyData} {w k : Nat} {Q : VK} (h : Dp K H x d) (r : Rp w k d) (hw : w ≤ 1048576) (hk : k ≤ 60) (hi : ∀ i, x ≠ .int i) (q : Q (.str d.shown) H) : rRepr K [x] H Q :=
  ⟨x, d, rfl, h, r.sh, r.nd, r.ls, by have := r.wt; omega, by have := r.dp; omega, hi, q⟩
def sgns : List Nat := [97, 98, 99, 100, 101, 102, 103, 104, 105, 106, 107, 108, 109, 110, 111, 112, 113, 114, 115, 116, 117, 118, 119, 120, 121, 122, 48, 49, 50, 51, 52, 53, 54, 55, 56, 57, 95, 45, 46]
theorem sign_eq : (PySem.Str.ofString "abcdefghijklmnopqrstuvwxyz0123456789_-.").cps.toList = sgns := by decide +kernel
def pt1 : Str := ⟨#[46]⟩
def pt2 : Str := ⟨#[46, 46]⟩
theorem pt1_eq : PySem.Str.ofString "." = pt1 := by decide +kernel
theorem pt2_eq : PySem.Str.ofString ".." = pt2 := by decide +kernel
/-- where c stands last in l, or -1 -/
def IsLast (c : Nat) (l : List Nat) (s : Int) : Prop := (s = -1 ∧ ∀ k : Nat, l[k]? ≠ some c) ∨ ∃ i : Nat, s = i ∧ l[i]? = some c ∧ ∀ k : Nat, i < k → l[k]? ≠ some c
theorem IsLast.uniq {c : Nat} {l : List Nat} {s t : Int} (h : IsLast c l s) (k : IsLast c l t) : s = t := by
  rcases h with ⟨h1, h2⟩ | ⟨i, h1, h2, h3⟩ <;> rcases k with ⟨k1, k2⟩ | ⟨j, k1, k2, k3⟩
  · omega
  · exact absurd k2 (h2 j)
  · exact absurd h2 (k2 i)
  · rcases Nat.lt_trichotomy i j with e | e | e
    · exact absurd k2 (h3 j e)
    · omega
    · exact absurd h2 (k3 i e)
theorem IsLast.nil {c : Nat} : IsLast c [] (-1) := .inl ⟨rfl, fun k h => by simp at h⟩
theorem IsLast.step {c x : Nat} {l : List Nat} {s : Int} (h : IsLast c l s) : IsLast c (l ++ [x]) (if x = c then (l.length : Int) else s) := by
  by_cases e : x = c
  · rw [if_pos e]
    refine .inr ⟨l.length, rfl, by simp [e], fun k hk hh => ?_⟩
    rw [List.getElem?_eq_none (by simp; omega)] at hh
    cases hh
  · rw [if_neg e]
    have no : ∀ k : Nat, (l ++ [x])[k]? = some c → l[k]? = some c := fun k hk => by
      by_cases hl : k < l.length
      · rw [List.getElem?_append_left hl] at hk
        exact hk
      · rw [List.getElem?_append_right (by omega)] at hk
        by_cases h0 : k - l.length = 0
        · rw [h0] at hk
          simp at hk
          exact absurd hk e
        · rw [List.getElem?_eq_none (by simp; omega)] at hk
          cases hk
    rcases h with ⟨h1, h2⟩ | ⟨i, h1, h2, h3⟩
    · exact .inl ⟨h1, fun k hk => h2 k (no k hk)⟩
    · exact .inr ⟨i, h1, by rw [List.getElem?_append_left (idx_lt h2)]; exact h2, fun k hk hh => h3 k hk (no k hh)⟩
theorem rfind_last (z : Str) (c : Nat) : IsLast c z.cps.toList (Txt.rfind z ⟨#[c]⟩) := by
  unfold Txt.rfind
  rcases PySem.StrLaws.last_spec z ⟨#[c]⟩ with ⟨e, h⟩ | ⟨i, e, h, k⟩
  · rw [e]
    exact .inl ⟨rfl, fun k hk => h k ((PySem.StrLaws.subAt_one z c k).mpr hk)⟩
  · rw [e]
    exact .inr ⟨i, rfl, (PySem.StrLaws.subAt_one z c i).mp h, fun m hm hk => k m hm ((PySem.StrLaws.subAt_one z c m).mpr hk)⟩
theorem walk_Ies {x : Str} : Walk (Ies x) x.cps.size (fun _ => True) (fun i H v H' => ∃ T c, v = V.ref T ∧ H T = none ∧ H' = upd H T (.tup [.int (i : Nat), .str ⟨#[c]⟩]) ∧ x.cps[i]? = some c) :=
  ⟨fun i H h _ => h, fun H _ => Nat.le_refl _, fun i H x H' _ _ y => y⟩
end FR

/-! The end: the law's promise (Fn, guards told) at the heap behind the top. -/
namespace FE
open PySem PySem.Spec PyProof.Rows L2 FL FH
theorem room_caller {gd : Bool} {k : Nat} (h : k ≤ 40) : Rm gd k callerA := by
  have r : Room 40 callerA := ⟨rfl, by decide, by decide⟩
  exact ⟨r.mono h, fun _ => rfl⟩
/-- the heap that tells of the script alone -/
def scH (K : PySem.W.Frag) (a : Addr) (u : HO) : Hp := fun b => if b = a ∧ K.lookup a = none then some u else none
theorem scH_some {K : PySem.W.Frag} {a b : Addr} {u v : HO} (h : scH K a u b = some v) : b = a ∧ K.lookup a = none ∧ v = u := by
  unfold scH at h
  split at h
  · rename_i c
    exact ⟨c.1, c.2, (Option.some.inj h).symm⟩
  · cases h
theorem call_at {P : Program} {w : World} {K : PySem.W.Frag} {mg mb : Str → Option Value} {k : Nat} {fa a : Addr} {sp : Sp} {s : Shared} {vs : List Value} {ns : List Int}
    (kin : K.In s.heap) (hns : s.heap.Ns mainGlobals mg) (hbn : s.heap.Ns builtinsNs mb) (hbb : ∀ x : Str, x ≠ "__name__" → mb x = bootBuiltins x) (hlim : s.heap.NoLimit) (hgen : s.gens = #[])
    (hobj : s.heap.get? a = some { cls := .type "list", data := .seq vs.toArray }) (hint : IntsAre vs ns) (hlen : ns.length ≤ sizeLine) (hk : k ≤ 40)
    (F : ∀ base : Heap, K.In base → base.Ns mainGlobals mg → Fn true P w K mg base k fa [] sp)
    (hsp : ∀ H : Hp, SqL K H a (ns.map V.int) → sp [.ref a] H (fun v _ => v = .bl true) fun _ _ _ => False) :
    codeAny (model P w) callerA (.call (.ref fa) ⟨[.ref a], []⟩) (fun r s' => r = .ok (.ret (.bool true)) ∧ OldK s.heap s'.heap ∧ s'.os = s.os ∧ AllBare s'.gens) s := by
  have rel := vals_ints hint
  have ln := hint.length
  obtain ⟨so, eso⟩ : ∃ so : Obj, so = { cls := .type "list", data := .seq vs.toArray } := ⟨_, rfl⟩
  rw [← eso] at hobj
  obtain ⟨H, eH⟩ : ∃ H : Hp, H = scH K a (.frz so (.lst (ns.map V.int))) := ⟨_, rfl⟩
  have only : ∀ {b : Addr} {v : HO}, H b = some v → b = a ∧ K.lookup a = none ∧ v = .frz so (.lst (ns.map V.int)) := fun {b v} h => scH_some (by rw [← eH]; exact h)
  have ok : HOk P w H s.heap := by
    intro b v h
    obtain ⟨e1, _, e3⟩ := only h
    subst e1 e3 eso
    exact ⟨hobj, by rw [List.length_map]; exact hlen, vs, _, rel, hobj⟩
  have sq : SqL K H a (ns.map V.int) := by
    cases hka : K.lookup a with
    | none => exact .inl (.inr ⟨so, by rw [eH]; exact if_pos ⟨rfl, hka⟩⟩)
    | some o =>
      have z := kin a o hka
      rw [hobj] at z
      obtain rfl : so = o := Option.some.inj z
      subst eso
      exact .inr ⟨_, vs.toArray, _, hka, rfl, rfl, rfl, by rw [List.size_toArray, ln]; exact hlen, by simpa using rel⟩
  have free : ∀ {b : Addr} {o : Obj}, s.heap.get? b = some o → (b = a → K.lookup a ≠ none ∨ o ≠ so) → H b = none := fun {b o} h n => by
    cases e : H b with
    | none => rfl
    | some v =>
      obtain ⟨e1, e2, _⟩ := only e
      rcases n e1 with z | z
      · exact absurd e2 z
      · subst e1
        rw [hobj] at h
        exact absurd (Option.some.inj h).symm z
  have toBase : ∀ {b : Addr} {m : Str → Option Value}, s.heap.Ns b m → (hidT s.heap H).Ns b m := fun {b m} ⟨o, es, ep, h, d, r⟩ => ⟨o, es, ep, hidT_get h (free h fun _ => .inr fun z => by
    rw [z, eso] at d
    have d' : Data.seq vs.toArray _ = Data.dict es ep := d
    cases d'), d, r⟩
  have kbase : K.In (hidT s.heap H) := fun b o h => hidT_get (kin b o h) (free (kin b o h) fun e => .inl (by rw [← e, h]; simp))
  have mod : Mod K mg (hidT s.heap H) := ⟨kbase, toBase hns, ⟨mb, toBase hbn, hbb⟩, let ⟨mc, g1, g2⟩ := hlim; ⟨mc, toBase g1, g2⟩⟩
  have env : Env0 P w K mg (hidT s.heap H) callerA [] s H := by
    refine ⟨rfl, mod, fun b o h => of_hidT h, Nat.le_of_eq (hidT_size _ _), trivial, ?_, ok, .of_eq hgen⟩
    intro b hb
    cases (show b ∈ ([] : List Addr) from hb)
  have run := F _ kbase (toBase hns) callerA [] s H [.ref a] [] [.ref a] [] _ _ (room_caller hk) env (.cons rfl .nil) .nil rfl (hsp H sq)
  refine codeAny_mono run fun r s' h => ?_
  cases r with
  | error e =>
    obtain ⟨_, _, _, _, _, _, _, _, _, _, _, _, z⟩ := (show L2.CX P w [] H s (fun _ _ _ => False) e s' from h)
    exact z.elim
  | ok fl =>
    cases fl with
    | ret u =>
      obtain ⟨v, H', os, bare, un, ok', rv, q⟩ := h
      have qv : v = .bl true := q
      subst qv
      obtain rfl : u = Value.bool true := rv
      refine ⟨rfl, OldK.of_keep fun b o hb => ?_, os, bare⟩
      cases e : H b with
      | none =>
        refine un.keep b o hb e (fun z => ?_) (by simp)
        cases (show b ∈ ([] : List Addr) from z)
      | some v =>
        obtain ⟨_, _, e3⟩ := only e
        subst e3
        obtain ⟨g1, _⟩ := ok b _ e
        obtain ⟨g2, _⟩ := ok' b _ (un.frzs b so _ e)
        rw [hb] at g1
        rw [g2, Option.some.inj g1]
    | next => exact False.elim h
    | brk => exact False.elim h
    | cont => exact False.elim h
/-- the goal that the head leaves, from the law's promise -/
theorem walk_fn {l : PySem.W.OpenLaw} {n k : Nat} {q : Program} {loose : List Str} {XP : (Str → Option Value) → Heap → Prop} {YP : World → Heap → Prop} {d : DefRec}
    (hn : l.most = some n) (hn2 : n ≤ sizeLine) (hdf : d.params.defaults = []) (hk : k ≤ 40)
    (F : ∀ (w : World) (mg : Str → Option Value) (fa : Addr) (h : Heap), YP w h → h.Ns mainGlobals mg → mg d.name = some (.ref fa) →
      ∃ (K : PySem.W.Frag) (sp : Sp), K.In h ∧ (∀ (H : Hp) (a : Addr) (ns : List Int), ns.length ≤ n → SqL K H a (ns.map V.int) → sp [.ref a] H (fun v _ => v = .bl true) fun _ _ _ => False) ∧
        ∀ base : Heap, K.In base → base.Ns mainGlobals mg → Fn true l.prog w K mg base k fa [] sp) :
    PySem.W.WalkO q loose XP YP l.row.toRowW d [] (fun f vs => PySem.call f vs) := by
  refine Att.attach_call hn hdf fun w s0 s1 mg mb f o pm cd dc p us is G Y hf hdat hcode hm hp hint hlen hgen => ?_
  obtain ⟨K, sp, kin, h1, h2⟩ := F w mg f _ Y G.T.g hm
  exact call_at kin G.T.g G.T.b G.T.builtins G.T.nolimit hgen hp hint (Nat.le_trans hlen hn2) hk h2 fun H hS => h1 H p is hlen hS
end FE

/-! Own exceptions with an own __init__, over any of the four base classes. -/
namespace FX
open PySem PySem.Spec PyProof.Rows L2 FL FR
/-- a base of the language: its names, its facts -/
structure Fam where
  B : String
  newId : String
  initId : String
  bm : List Value
  F : ExcBaseFacts B newId initId bm
  S : StoreFacts B bm "object.__setattr__" "object"
  hh : PySem.W.handedIn (.builtin initId) = true
def famV : Fam := ⟨_, _, _, _, PySem.F.excBase_ValueError, PySem.F.store_ValueError, by decide +kernel⟩
def famL : Fam := ⟨_, _, _, _, PySem.F.excBase_LookupError, PySem.F.store_LookupError, by decide +kernel⟩
def famR : Fam := ⟨_, _, _, _, PySem.F.excBase_RuntimeError, PySem.F.store_RuntimeError, by decide +kernel⟩
def famA : Fam := ⟨_, _, _, _, PySem.F.excBase_ArithmeticError, PySem.F.store_ArithmeticError, by decide +kernel⟩
/-- what the written part says of such a class -/
structure OxC (fm : Fam) (K : PySem.W.Frag) (C : Addr) : Prop where
  made : PySem.W.excInitIn K C fm.bm fm.newId = true
  ov : PySem.W.excOver K C fm.bm = true
  sa : PySem.W.findIn K (.ref C) "__setattr__" = some (some (.builtin "object.__setattr__"))
  ex : PySem.W.subIn K (.ref C) (.type "BaseException") = some true
  ty : PySem.W.typeIn K (.ref C) = some (.type "type")
  kp : PySem.W.keepIn K (.ref C) = true
  hd : PySem.W.hasDictIn K C = true
/-- .. and its field f -/
structure OxF (fm : Fam) (K : PySem.W.Frag) (C fI : Addr) (f : Str) : Prop where
  c : OxC fm K C
  no : PySem.W.findIn K (.ref C) f = some none
  ini : PySem.W.findIn K (.ref C) "__init__" = some (some (.ref fI))
  fn : PySem.W.typeIn K (.ref fI) = some (.type "function")
section
variable {prog : Program} {w : World} {A : Around} {R : Result → Shared → Prop} {K : PySem.W.Frag} {fm : Fam}
open PySem.W in
/-- the store into an exception that has no dict yet -/
theorem first_store {s : Shared} {C x t1 : Addr} {name : Str} {tk : Tok} {v : Value} (T : OxC fm K C) (kin : K.In s.heap) (hno : findIn K (.ref C) name = some none) (hx : s.heap.get? x = some (HandSPX.excO C t1))
    (hq : ∀ h' tk' dx, (∀ b o, b ≠ x → s.heap.get? b = some o → h'.get? b = some o) → s.heap.objs.size ≤ dx → dx ≠ x → h'.get? x = some { HandSPX.excO C t1 with dict := some dx } → h'.Ns1 dx (fun y => if y = name then some v else none) → R (.ok (.ret .none)) { s with heap := h', toks := tk' }) :
    codeAny (model prog w) A (.call (.builtin "object.__setattr__") ⟨[.ref x, .str name tk, v], []⟩) R s := by
  refine osa_openX (od := none) (r := none) fm.S kin ⟨hx, rfl, rfl, trivial⟩ T.ov (by unfold takerIn; rw [hno] <;> rfl) fun b => ?_
  obtain ⟨cd, hc, hdict⟩ := any_some T.hd
  have small : x < s.heap.objs.size := Heap.lt_size hx
  refine wpAny_bind (wpAny_pure (wpAny_bind (instanceDict_exc hx (looks_clsIn kin hc) hdict ?_)))
  obtain ⟨hp, g, d, t, os⟩ := s
  refine HandSPX.store_in_new ?_ fun h2 tk2 hns hsb => ?_
  · exact ⟨dictOf [] 0, #[], 0, (Heap.get?_update_ne _ _ _ _ (Nat.ne_of_gt small)).trans (Heap.get?_push_at rfl rfl), rfl, fun e he => absurd he (by simp), fun _ => rfl⟩
  · refine hq h2 tk2 hp.objs.size (fun b o hb ho => ?_) (Nat.le_refl _) (Nat.ne_of_gt small) ?_ hns
    · exact (hsb.2 b (Nat.ne_of_lt (Heap.lt_size ho))).trans ((Heap.get?_update_ne _ _ _ _ hb).trans (Heap.get?_push_of_some _ ho))
    · exact (hsb.2 x (Nat.ne_of_lt small)).trans (Heap.get?_update_self _ (Heap.get?_push_of_some _ hx) rfl)
end
section
variable {X : Cx} {fm : Fam} {C CB fI : Addr} {f : Str}
theorem raises_ox (T : OxC fm X.K C) : Raises X (.ref C) := raises_own T.ex T.ty
/-- the base's __init__: nothing of it is told -/
theorem init_ox {pins : List (Addr × Obj)} {σ : L2.St} {H : Hp} {s : Shared} {a : Addr} {us : List Value} {Q : Value → Shared → Prop} {E : Value → Shared → Prop} {A : Around} (T : OxC fm X.K C) (I : Inv X pins σ H s) (e : H a = some (exo a C none)) (hl : us.length ≤ sizeLine)
    (h : ∀ s', Inv X pins σ H s' → Q .none s') : wpAny (model X.prog X.w) A (call (.builtin fm.initId) (.ref a :: us)) Q E s := by
  obtain ⟨nm, N', qn, bs, bm, hdct, sn, sub, ab, col, dd, k0, k1, k2, k3, k5, hC, hT⟩ := PySem.W.excInit_of I.kIn T.made
  obtain ⟨t1, ho⟩ := exo_at I.hok e
  obtain ⟨hp, g, d, t, os⟩ := s
  refine wpAny_call (HandSPX.init_base fm.F hT hC ho hl fun h2 t2 kept hx => ?_)
  have same : upd H a (exo a C none) = H := funext fun b => by
    by_cases hb : b = a
    · rw [hb, upd_same, e]
    · exact upd_ne hb
  have J := I.write (t' := t) (x := a) (e := a) (o := exo a C none) (by rw [e]; exact True.intro) (.inl rfl) kept ⟨_, hx⟩ (exo_ok hx)
  rw [same] at J
  exact h _ J
/-- B.__init__(self, ..), B an own class over the base -/
def tBase (fm : Fam) (K : PySem.W.Frag) (ta : TA) : TE := fun σ H Q => ta σ H fun vs H1 => ∃ a ws, vs = .ref a :: ws ∧ ∃ C, H1 a = some (exo a C none) ∧ OxC fm K C ∧ ws.length ≤ 1000 ∧ Q .non H1
theorem pe_base {pl : Sem Bool} {B : Str} {e : Expr} {es : List Expr} {ta : TA} {p1 p2 pos : Pos} (hg : Gl X B) (hm : X.mg B = some (.ref CB)) (rd : PySem.W.readsIn X.K CB (.type "type") = true)
    (gg : PySem.W.specialIn X.K (.ref CB) "__getattribute__" = some (some (.builtin "type.__getattribute__"))) (fi : PySem.W.findCls X.K (.ref CB) (.type "type") "__init__" = some (.val (.builtin fm.initId))) (ha : PA X (e :: es) ta)
    (hc : eval (.Call (.Attribute (.Name B p1) "__init__" p2) (e :: es) [] pos) X.env = (do
      let ov ← eval (.Name B p1) X.env
      standAt p2.atName
      let (f, first) ← holding [ov] (getMethod ov "__init__" pl)
      callWith pos f first (backTo pos (starEach (e :: es) X.env)) (backToKw pos (keywordEach [] X.env))) := by rfl)
    (hdb : (B == ("__debug__" : Str)) = false := by decide)
    (he : starEach (e :: es) X.env = (false, eval e X.env) :: starEach es X.env := by rfl) (hpl : (backTo pos (starEach es X.env)).any (·.1) = false := by rfl) :
    PE X (.Call (.Attribute (.Name B p1) "__init__" p2) (e :: es) [] pos) (tBase fm X.K ta) := by
  refine ⟨fun pins s σ H Q I h => ?_⟩
  refine PySem.W.methodCall_KW (ld_glob I hg hm ?_ hdb) hc
  refine PySem.W.method_cls I.kIn gg (PySem.W.cls_value I.kIn rd fi fm.hh ?_)
  show wpAny _ _ (callWith pos (Value.builtin fm.initId) [] (backTo pos (starEach (e :: es) X.env)) []) _ _ _
  refine PyProof.Rows.callWith_method1 (thn (ha.run pos pins _ σ H _ (I.tok _) h) fun us s1 ⟨vs, H1, I1, r1, a, ws, ev, C, ea, T, hl, q⟩ => ?_) he hpl
  subst ev
  cases r1 with
  | @cons _ u0 _ ur ra rw' =>
    obtain rfl : u0 = Value.ref a := ra
    have few : ur.length ≤ sizeLine := by
      rw [← Paired.length rw', sizeLine_eq]
      omega
    exact init_ox T I1 ea few fun s2 J => ⟨.non, H1, J, rfl, q⟩
/-- self.f = e, the first field -/
def sErr (fm : Fam) (K : PySem.W.Frag) (f : Str) (to te : TE) : TS := fun D σ H => te σ H fun y H1 => to σ H1 fun x H2 => ∃ a, x = .ref a ∧ ∃ C, H2 a = some (exo a C none) ∧ OxC fm K C ∧ PySem.W.findIn K (.ref C) f = some none ∧
  ∀ dx, H2 dx = none → dx ≠ a → D.nx σ (upd (upd H2 dx (exd dx [(f, y)])) a (exo a C (some dx)))
theorem ps_err {o e : Expr} {to te : TE} {p' pos : Pos} (ho : PE X o to) (he : PE X e te) (hs : swapsWith e (some (.Attribute o f p')) pos.line X.env = pure false := by rfl) : PS X (.Assign [.Attribute o f p'] e pos) (sErr fm X.K f to te) := by
  refine ⟨fun pins s σ H D I h => ?_⟩
  refine plainObj_wpAny_Assign_Attribute (thn (he.run pins s σ H _ I h) fun v s1 ⟨y, H1, I1, r1, q1⟩ => thn (ho.run pins s1 σ H1 _ I1 q1) fun u s2 ⟨x, H2, I2, r2, a, ex, C, ea, T, hno, q⟩ => ?_) hs
  subst ex
  obtain rfl : u = Value.ref a := r2
  obtain ⟨t1, hob⟩ := exo_at I2.hok ea
  refine PySem.W.set_plain I2.kIn (ox := HandSPX.excO C t1) (od := none) ⟨hob, rfl, rfl, trivial⟩ T.sa ?_
  have I3 := I2.tok (s2.toks + 1)
  refine first_store T I3.kIn hno hob fun h2 tk2 dx kept big ne hx hns => ?_
  have nd : H2 dx = none := I2.hok.fresh big
  have low : ∀ {b : Addr} {o : Obj}, s2.heap.get? b = some o → b ≠ dx := fun {b o} z => Nat.ne_of_lt (Nat.lt_of_lt_of_le (Heap.lt_size z) big)
  have na : ∀ {b : Addr}, H2 b = none → b ≠ a := fun {b} n z => by rw [z, ea] at n; cases n
  have U : Un X.fs [] H2 (upd (upd H2 dx (exd dx [(f, y)])) a (exo a C (some dx))) s2.heap h2 := {
    keep := fun b o z n _ _ => kept b o (na n) z
    slot := fun b o z n _ _ => ⟨o.slots, kept b o (na n) z⟩
    free := fun b o z n _ => by rw [upd_ne (na n), upd_ne (low z)]; exact n
    there := fun b o z _ => by
      by_cases hb : b = a
      · subst hb
        exact ⟨_, hx⟩
      · exact ⟨o, kept b o hb z⟩
    tups := fun b xs z => by rw [upd_ne (at_ne ea z exo_tup), upd_ne (ne_of_none z nd)]; exact z
    frzs := fun b o u z => by rw [upd_ne (at_ne ea z exo_frz), upd_ne (ne_of_none z nd)]; exact z
    tbls := fun b ps z => ⟨#[], by rw [upd_ne (at_ne ea z exo_tbl), upd_ne (ne_of_none z nd), z]; simp⟩ }
  have J := I2.un (t' := tk2) U fun b o z => by
    by_cases hb : b = a
    · subst hb
      rw [upd_same] at z
      cases z
      exact exo_ok hx
    · rw [upd_ne hb] at z
      by_cases hd : b = dx
      · subst hd
        rw [upd_same] at z
        cases z
        exact exd_ok hns (relO_put (fs := []) r1 fun g => True.intro)
      · rw [upd_ne hd] at z
        refine (I2.hok b o z).stay (fun c v hc y2 => kept c v ?_ y2) (fun c hc => ?_) (fun c xs hc => ?_)
        · rcases hc with hc | hc
          · rw [hc]
            exact hb
          · exact at_ne ea hc exo_own
        · rw [upd_ne (at_ne ea hc exo_own), upd_ne (ne_of_none hc nd)]
          exact hc
        · rw [upd_ne (at_ne ea hc exo_tup), upd_ne (ne_of_none hc nd)]
          exact hc
  exact ⟨σ, _, J, q dx nd ne⟩
end
/-- the promise of such an __init__: the field f is laid -/
def spErr (C : Addr) (f : Str) : Sp := fun vs H Q _ => ∃ (a : Addr) (v : V), vs = [.ref a, v] ∧ H a = some (exo a C none) ∧ ∀ d, H d = none → d ≠ a → Q .non (upd (upd H d (exd d [(f, v)])) a (exo a C (some d)))
section
variable {gd : Bool} {X : Cx} {fm : Fam} {C fI : Addr} {f x : Str} {k : Nat} {ks : List Str}
/-- the heap behind C(v): the object at a, its dict at d -/
def errH (H : Hp) (a C d : Addr) (f : Str) (v : V) : Hp := upd (upd (upd H a (exo a C none)) d (exd d [(f, v)])) a (exo a C (some d))
theorem call_ox {pins : List (Addr × Obj)} {σ : L2.St} {H : Hp} {s : Shared} {u : Value} {v : V} {Q : Value → Shared → Prop} (T : OxF fm X.K C fI f) (F1 : Fn gd X.prog X.w X.K X.mg X.base k fI [] (spErr C f)) (hr : Rm gd (k + 1) X.A) (I : Inv X pins σ H s) (r : RelV v u)
    (hx : ∀ (pins2 : List (Addr × Obj)) (σ2 : L2.St) (H2 : Hp) (s2 : Shared) (e : Value) (s' : Shared), Inv X pins2 σ2 H2 s2 → L2.CX X.prog X.w X.stack H2 s2 (fun _ _ _ => False) e s' → X.xe e s')
    (h : ∀ (a d : Addr) (hp2 h2 : Heap) (g2 : Array GenState) (d2 : Drawn) (t2 : Nat) (os2 : OsState), s.heap.objs.size ≤ a → H a = none → H d = none → d ≠ a → (∀ b o, s.heap.get? b = some o → hp2.get? b = some o) → Un (frs X.stack) [] (upd H a (exo a C none)) (errH H a C d f v) hp2 h2 →
      HOk X.prog X.w (errH H a C d f v) h2 → os2 = s.os → AllBare g2 → Q (.ref a) ⟨h2, g2, d2, t2, os2⟩) :
    wpAny (model X.prog X.w) X.A (call (.ref C) [u]) Q X.xe s := by
  obtain ⟨nm, N', qn, bs, bm, hdct, sn, sub, ab, col, dd, k0, k1, k2, k3, k5, hC, hT⟩ := PySem.W.excInit_of I.kIn T.c.made
  obtain ⟨hp, g, dr, tk, os⟩ := s
  obtain ⟨a, ea⟩ : ∃ a, a = hp.objs.size + 1 := ⟨_, rfl⟩
  obtain ⟨hp2, e2⟩ : ∃ hp2 : Heap, hp2 = (hp.push (PySem.W.kdv_tup [u])).push (HandSPX.excO C hp.objs.size) := ⟨_, rfl⟩
  have big : hp.objs.size ≤ a := by rw [ea]; exact Nat.le_succ _
  have na : H a = none := I.hok.fresh big
  have kept : ∀ b o, hp.get? b = some o → hp2.get? b = some o := fun b o z => by
    rw [e2]
    exact Heap.get?_push_of_some _ (Heap.get?_push_of_some _ z)
  have there : hp2.get? a = some (HandSPX.excO C hp.objs.size) := by
    rw [e2, ea]
    heap_get
  have J : Inv X pins σ (upd H a (exo a C none)) ⟨hp2, g, dr, tk, os⟩ := I.laid (t' := tk) (a := a) (o := exo a C none) (h' := hp2) kept big (exo_ok there)
  have few : [u].length ≤ sizeLine := fits (by simp)
  refine wpAny_call (HandSPX.call_own fm.F hT hC (PySem.W.looks_findIn I.kIn T.ini) (fun self => PySem.W.bind_fn I.kIn self T.fn) few ?_)
  rw [← e2, ← ea]
  refine codeAny_mono (F1 _ X.stack _ _ [.ref a, u] [] [.ref a, v] [] (fun y H2 => y = .non ∧ ∃ d, H d = none ∧ d ≠ a ∧ H2 = errH H a C d f v) (fun _ _ _ => False) (hr.make C [u] []) (J.env0.make C [u] []) (.cons rfl (.cons r .nil)) .nil rfl
    ⟨a, v, rfl, upd_same, fun d nd ne => ⟨rfl, d, by rw [upd_ne ne] at nd; exact nd, ne, rfl⟩⟩) fun res s' hq => ?_
  cases res with
  | error er => exact hx pins σ _ _ er s' J hq
  | ok fl =>
    cases fl with
    | ret z =>
      obtain ⟨y, H2, os2, bare, un, hok, rv, ey, d, nd, ne, eH⟩ := hq
      subst ey eH
      obtain ⟨h2, g2, d2, t2, os'⟩ := s'
      exact ⟨rv, h a d hp2 h2 g2 d2 t2 os' big na nd ne kept un hok os2 bare⟩
    | next => exact False.elim hq
    | brk => exact False.elim hq
    | cont => exact False.elim hq
/-- what a raise leaves: the dict alone -/
theorem errH_del {H : Hp} {a d : Addr} {v : V} (na : H a = none) (ne : d ≠ a) : upd (del (errH H a C d f v) a) d (.xd [(f, v)]) = upd H d (.xd [(f, v)]) := funext fun b => by
  by_cases hd : b = d
  · subst hd
    rw [upd_same, upd_same]
  · rw [upd_ne hd, upd_ne hd]
    by_cases hb : b = a
    · subst hb
      rw [del_same, na]
    · rw [del_ne hb]
      unfold errH
      rw [upd_ne hb, upd_ne hd, upd_ne hb]
/-- C(e) to be raised -/
def tErr (C : Addr) (f : Str) (ta : TA) : L2.St → Hp → XK → Prop := fun σ H Q => ta σ H fun vs H1 => ∃ v, vs = [v] ∧ ∀ d, H1 d = none → Q (.ref C) (some d) (upd H1 d (.xd [(f, v)]))
theorem pmk_ox {a1 : Expr} {ta : TA} {p pos : Pos} (T : OxF fm X.K C fI f) (F1 : Fn gd X.prog X.w X.K X.mg X.base k fI [] (spErr C f)) (hr : Rm gd (k + 1) X.A) (hg : Gl X x) (hm : X.mg x = some (.ref C))
    (hx : ∀ (pins2 : List (Addr × Obj)) (σ2 : L2.St) (H2 : Hp) (s2 : Shared) (e : Value) (s' : Shared), Inv X pins2 σ2 H2 s2 → L2.CX X.prog X.w X.stack H2 s2 (fun _ _ _ => False) e s' → X.xe e s')
    (ha : PA X [a1] ta) (hdb : (x == ("__debug__" : Str)) = false := by decide) (he : starEach (a1 :: []) X.env = (false, eval a1 X.env) :: starEach [] X.env := by rfl) (hpl : (backTo pos (starEach [] X.env)).any (·.1) = false := by rfl) :
    PMk X (.Call (.Name x p) [a1] [] pos) (tErr C f ta) := by
  intro pins s σ H Q I h
  refine wpAny_Call_Name_kw (ld_glob I hg hm ?_ hdb)
  refine PySem.W.callWith_K (h₀ := X.base) I.ok.mod.kin T.c.kp (thn (ha.run pos pins s σ H _ I h) fun us s1 ⟨vs, H1, I1, r1, v, ev, q⟩ => ⟨I1.kIn, ?_⟩) he hpl
  subst ev
  cases r1 with
  | cons rv rn =>
    cases rn
    refine call_ox T F1 hr I1 rv hx fun a d hp2 h2 g2 d2 t2 os2 big na nd ne kept un hok eos bare => ?_
    obtain ⟨hp, g, dr, tk, os⟩ := s1
    refine mk_end (C := C) (fs := [(f, v)]) (d := d) (raises_ox T.c) I1 big kept un hok eos bare ?_ ?_ nd ?_
    · exact upd_same
    · unfold errH
      rw [upd_ne ne]
      exact upd_same
    · rw [errH_del na ne]
      exact q d nd
/-- raise C(e) -/
theorem ps_rerr {W : WX} {a1 : Expr} {ta : TA} {p pos pos2 : Pos} (hc : X.calm = true) (tk : Takes X W) (T : OxF fm X.K C fI f) (F1 : Fn gd X.prog X.w X.K X.mg X.base k fI [] (spErr C f)) (hr : Rm gd (k + 1) X.A) (hg : Gl X x) (hm : X.mg x = some (.ref C))
    (hx : ∀ (pins2 : List (Addr × Obj)) (σ2 : L2.St) (H2 : Hp) (s2 : Shared) (e : Value) (s' : Shared), Inv X pins2 σ2 H2 s2 → L2.CX X.prog X.w X.stack H2 s2 (fun _ _ _ => False) e s' → X.xe e s')
    (ha : PA X [a1] ta) (hdb : (x == ("__debug__" : Str)) = false := by decide) (he : starEach (a1 :: []) X.env = (false, eval a1 X.env) :: starEach [] X.env := by rfl) (hpl : (backTo pos (starEach [] X.env)).any (·.1) = false := by rfl) :
    PS X (.Raise (some (.Call (.Name x p) [a1] [] pos)) none pos2) (fun _ σ H => tErr C f ta σ H fun cls d H' => W cls d σ H') := ps_raise hc tk (pmk_ox T F1 hr hg hm hx ha hdb he hpl)
end
end FX

/-! Facts of own exceptions, for the Hook; their readings. -/
namespace FX
open PySem PySem.Spec PyProof.Rows L2 He FL FR FH
def fOx (fm : Fam) (C f : Str) : Ft := fun K => PySem.W.excInitIn K (ga K C) fm.bm fm.newId && (PySem.W.excOver K (ga K C) fm.bm && (eqO (PySem.W.findIn K (.ref (ga K C)) "__setattr__") (some (some (.builtin "object.__setattr__"))) &&
  (decide (PySem.W.subIn K (.ref (ga K C)) (.type "BaseException") = some true) && (decide (PySem.W.typeIn K (.ref (ga K C)) = some (.type "type")) && (PySem.W.keepIn K (.ref (ga K C)) && (PySem.W.hasDictIn K (ga K C) &&
  (eqO (PySem.W.findIn K (.ref (ga K C)) f) (some none) && (eqO (PySem.W.findIn K (.ref (ga K C)) "__init__") (some (some (.ref (ma K (ga K C) "__init__")))) && decide (PySem.W.typeIn K (.ref (ma K (ga K C) "__init__")) = some (.type "function"))))))))))
theorem ox_ok {fm : Fam} {C f : Str} {K : PySem.W.Frag} (c : fOx fm C f K = true) : OxF fm K (ga K C) (ma K (ga K C) "__init__") f := by
  obtain ⟨c1, c⟩ := ba c
  obtain ⟨c2, c⟩ := ba c
  obtain ⟨c3, c⟩ := ba c
  obtain ⟨c4, c⟩ := ba c
  obtain ⟨c5, c⟩ := ba c
  obtain ⟨c6, c⟩ := ba c
  obtain ⟨c7, c⟩ := ba c
  obtain ⟨c8, c⟩ := ba c
  obtain ⟨c9, c10⟩ := ba c
  exact ⟨⟨c1, c2, eqO_ok c3, of_decide_eq_true c4, of_decide_eq_true c5, c6, c7⟩, eqO_ok c8, eqO_ok c9, of_decide_eq_true c10⟩
/-- an own class above such classes: B.__init__ is the base's -/
def fBase (B id : Str) (n : String) : Ft := fun K => PySem.W.readsIn K (ga K B) (.type "type") && (decide (PySem.W.specialIn K (.ref (ga K B)) "__getattribute__" = some (some (.builtin "type.__getattribute__"))) && (match PySem.W.findCls K (.ref (ga K B)) (.type "type") id with
  | some (.val (.builtin m)) => m == n
  | _ => false))
theorem base_ok {B id : Str} {n : String} {K : PySem.W.Frag} (c : fBase B id n K = true) : PySem.W.readsIn K (ga K B) (.type "type") = true ∧ PySem.W.specialIn K (.ref (ga K B)) "__getattribute__" = some (some (.builtin "type.__getattribute__")) ∧ PySem.W.findCls K (.ref (ga K B)) (.type "type") id = some (.val (.builtin n)) := by
  obtain ⟨c1, c⟩ := ba c
  obtain ⟨c2, c3⟩ := ba c
  refine ⟨c1, of_decide_eq_true c2, ?_⟩
  cases q : PySem.W.findCls K (.ref (ga K B)) (.type "type") id with
  | none =>
    rw [q] at c3
    cases c3
  | some r =>
    rw [q] at c3
    cases r with
    | val v =>
      cases v with
      | builtin m =>
        have e : m = n := beq_iff_eq.mp c3
        rw [e]
      | _ => cases c3
    | _ => cases c3
section
variable {σ : L2.St} {H : Hp} {Q : VK} {D : Ends} {te to : TE} {ts : TA} {K : PySem.W.Frag} {fm : Fam} {f : Str} {C : Addr} {k : XK}
theorem r_err : tErr C f ts σ H k = ts σ H (fun vs H1 => ∃ v, vs = [v] ∧ ∀ d H2, IsNew H1 d (.xd [(f, v)]) H2 → k (.ref C) (some d) H2) := by
  unfold tErr
  congr 1
  funext vs H1
  apply propext
  constructor
  · rintro ⟨v, e, q⟩
    exact ⟨v, e, fun d H2 ⟨n, e2⟩ => by subst e2; exact q d n⟩
  · rintro ⟨v, e, q⟩
    exact ⟨v, e, fun d n => q d _ ⟨n, rfl⟩⟩
theorem r_base : tBase fm K ts σ H Q = ts σ H (fun vs H1 => ∃ a ws, vs = .ref a :: ws ∧ ∃ C, H1 a = some (exo a C none) ∧ OxC fm K C ∧ ws.length ≤ 1000 ∧ Q .non H1) := propext Iff.rfl
theorem r_serr : sErr fm K f to te D σ H = te σ H (fun y H1 => to σ H1 (fun x H2 => ∃ a, x = .ref a ∧ ∃ C, H2 a = some (exo a C none) ∧ OxC fm K C ∧ PySem.W.findIn K (.ref C) f = some none ∧
  ∀ dx, H2 dx = none → dx ≠ a → D.nx σ (upd (upd H2 dx (exd dx [(f, y)])) a (exo a C (some dx))))) := propext Iff.rfl
end
end FX

/-! try .. except C as n, the error kept behind the suite. -/
namespace FX
open PySem PySem.Spec PyProof.Rows L2 FL FR HandSPX
/-- a caught exception: its class, its dict -/
def exk (a : Addr) (cls : Value) (d : Option Addr) : HO := .ext fun h => ∃ (o : Obj) (vs : Array Value), h.get? a = some o ∧ o.cls = cls ∧ o.dict = d ∧ o.data = .fields vs
theorem exk_ok {P : Program} {w : World} {H : Hp} {h : Heap} {a : Addr} {cls : Value} {d : Option Addr} {o : Obj} {vs : Array Value} (e : h.get? a = some o) (z : Zc cls d o) (f : o.data = .fields vs) : ObjOk P w H h a (exk a cls d) :=
  ⟨⟨o, vs, e, z.1, z.2, f⟩, ⟨o, e⟩, fun h1 h2 ⟨o1, vs1, e1, r1⟩ k => ⟨o1, vs1, k o1 e1, r1⟩⟩
section
variable {X : Cx} {pins : List (Addr × Obj)} {σ : L2.St} {H : Hp} {s : Shared} {a : Addr} {oe : Obj} {cls : Value} {d : Option Addr} {vs : Array Value}
/-- what was pinned is tracked from now on -/
theorem track (J : Inv X ((a, oe) :: pins) σ H s) (new : X.s_0.heap.get? a = none) (apart : ∀ p ∈ X.pn ++ pins, p.1 ≠ a) (z : Zc cls d oe) (f : oe.data = .fields vs) : Inv X pins σ (upd H a (exk a cls d)) s := by
  obtain ⟨at_, na, nl, nf, nc⟩ := J.pin (a, oe) (List.mem_append_right _ List.mem_cons_self)
  have other : ∀ {b : Addr} {u : HO}, H b = some u → b ≠ a := fun {b u} e q => by
    rw [q] at e
    rw [show H a = none from na] at e
    cases e
  refine ⟨J.ok, J.os, J.bare, ⟨J.base.keep, J.base.slot, fun b o e n x => ?_, J.base.there, fun b xs e => ?_, fun b o v e => ?_, fun b ps e => ?_⟩, J.loc, J.cell, ?_, fun x c e => ?_, fun p hp => ?_, fun b u e => ?_, J.len⟩
  · rw [upd_ne (fun q => by rw [q, new] at e; cases e)]
    exact J.base.free b o e n x
  · have t := J.base.tups b xs e
    rw [upd_ne (other t)]
    exact t
  · have t := J.base.frzs b o v e
    rw [upd_ne (other t)]
    exact t
  · obtain ⟨more, t⟩ := J.base.tbls b ps e
    exact ⟨more, by rw [upd_ne (other t)]; exact t⟩
  · rw [upd_ne (Ne.symm nl)]
    exact J.free
  · rw [upd_ne (fun q => ?_)]
    · exact J.freeC x c e
    · obtain ⟨v, o, g1, g2⟩ := J.cell x c e
      rw [q, show s.heap.get? a = some oe from at_] at g1
      cases g1
      exact nc v g2
  · have hp' : p ∈ X.pn ++ (a, oe) :: pins := (List.mem_append.mp hp).elim (fun t => List.mem_append_left _ t) fun t => List.mem_append_right _ (List.mem_cons_of_mem _ t)
    have t := J.pin p hp'
    exact ⟨t.1, by rw [upd_ne (apart p hp)]; exact t.2.1, t.2.2⟩
  · by_cases hb : b = a
    · subst hb
      rw [upd_same] at e
      cases e
      exact exk_ok at_ z f
    · rw [upd_ne hb] at e
      refine (J.hok b u e).stay (fun c v _ g => g) (fun c g => ?_) (fun c xs g => ?_)
      · rw [upd_ne (other g)]
        exact g
      · rw [upd_ne (other g)]
        exact g
end
/-- the wish of the clause -/
def wKeep (K : PySem.W.Frag) (c : Value) (i : Nat) (ts : Addr → Value → Option Addr → TS) (Wout : WX) (D : Ends) : WX := fun cls d σ H =>
  ∃ b, PySem.W.exmOne K cls c = some b ∧ (b = true → ∀ a, H a = none → ts a cls d ⟨fun σ' H' => D.nx (σ'.set i none) (upd H' a (exk a cls d)), fun v H' => D.rt v (upd H' a (exk a cls d)), fun σ' H' => D.bk (σ'.set i none) (upd H' a (exk a cls d)), fun σ' H' => D.ct (σ'.set i none) (upd H' a (exk a cls d))⟩ (σ.set i (some (.ref a))) H) ∧
    (b = false → Wout cls d σ H)
section
variable {X : Cx} {x n : Str} {c : Value} {i : Nat} {body suite : List Stmt} {b0 : Stmt} {np hpos pos : Pos} {tb : WX → TS} {ts : Addr → Value → Option Addr → TS} {Wout : WX}
theorem ps_try_keep (hstk : X.stack = X.env :: X.outer) (hfrm : X.env.frame = some X.env.locals) (hN : X.N.Nodup) (hi : X.N[i]? = some n) (hloc : X.env.kindOf n = some .local) (hnm : Names X x c) (out : Takes X Wout)
    (hbody : ∀ (W : WX) (pn : List (Addr × Obj)) (xe : Value → Shared → Prop), Takes (X.tr pn xe) W → PassesOwn (model X.prog X.w) X.A X.env xe → PSs (X.tr pn xe) body (tb W))
    (hsuite : ∀ (a : Addr) (oe : Obj) (cls : Value) (d : Option Addr) (pn : List (Addr × Obj)), Zc cls d oe → (∃ vs, oe.data = .fields vs) → PSs (X.suite a ((a, oe) :: pn)) (b0 :: suite) (ts a cls d)) (hex : X.ex = [] := by rfl) :
    PS X (.Try body [.ExceptHandler (some (.Name x np)) (some n) (b0 :: suite) hpos] [] [] pos) (fun D σ H => tb (wKeep X.K c i ts Wout D) D σ H) := by
  refine ⟨fun pins s σ H D I h => ?_⟩
  have ok := I.ok
  have frames : X.A.frames = some (X.env :: X.outer) := by rw [ok.frames, hstk]
  refine wpAny_Try_except ?_
  have run := (hbody (wKeep X.K c i ts Wout D) (X.pn ++ pins) (fun e s1 => wpAny (model X.prog X.w) X.A (noteFrame e X.env) (fun _ s2 => wpAny (model X.prog X.w) X.A (setFlight e none) (fun _ s3 =>
    wpAny (model X.prog X.w) X.A (handleBy e X.env [.ExceptHandler (some (.Name x np)) (some n) (b0 :: suite) hpos]) (SP X pins D) X.xe s3) X.xe s2) X.xe s1) ?caught PassesOwn.looking).run [] s σ H D (I.toTry _) h
  case caught =>
    rintro u s2 ⟨a, B, sI, pins2, σ2, H2, cls, d, rfl, J0, nb, up, sky, na, eos, bare, b, hb, yes, no⟩
    have J := J0.ofTry ok
    have sky2 : Sky B (X.env :: X.outer) a (Zc cls d) X.env.locals s2.heap := by rw [← hstk]; exact sky
    refine Sky.land Zc.steady frames hfrm sky2 fun h3 fly up3 => ?_
    have J3 : Inv X pins σ2 H2 { s2 with heap := h3 } := J.landed nb fly.1 (up.trans up3) eos bare
    obtain ⟨o3, vs3, at3, z3, f3⟩ := fly.there
    have notFrame : a ∉ frs (X.env :: X.outer) := fun m => by
      obtain ⟨_, o', e', q⟩ := fly.2.2.1.mem m
      rw [at3] at e'
      cases e'
      exact q _ f3
    have nL : a ≠ X.env.locals := fun q => notFrame (List.mem_filterMap.mpr ⟨X.env, List.mem_cons_self, by rw [hfrm, q]⟩)
    have nF : a ∉ X.fs := fun m => by
      obtain ⟨e, he, q⟩ := List.mem_filterMap.mp m
      exact notFrame (List.mem_filterMap.mpr ⟨e, List.mem_cons_of_mem _ he, q⟩)
    have ground : B.get? a = none := fly.2.1
    have fromB : ∀ {b : Addr} {o : Obj}, sI.heap.get? b = some o → b ∉ frs X.stack → b ≠ a := fun {b o} e m q => by
      have t := nb b o e m
      rw [q, ground] at t
      cases t
    have newA : X.s_0.heap.get? a = none := by
      cases q : X.s_0.heap.get? a with
      | none => rfl
      | some o =>
        exfalso
        obtain ⟨o2, e2⟩ := J.base.there a o q (by rw [hex]; simp)
        exact fromB e2 (by rw [hstk]; exact notFrame) rfl
    have apart : ∀ p ∈ X.pn ++ pins, p.1 ≠ a := fun p hp => by
      have t := J.pin p hp
      refine fromB t.1 (fun m => ?_)
      rw [hstk] at m
      obtain ⟨e, he, q⟩ := List.mem_filterMap.mp m
      rcases List.mem_cons.mp he with q2 | q2
      · rw [q2, hfrm] at q
        exact t.2.2.1 (Option.some.inj q).symm
      · exact t.2.2.2.1 (List.mem_filterMap.mpr ⟨e, q2, q⟩)
    have S3 := J3.suite at3 f3 na nL nF
    refine wpAny_handleBy_cons (codeAny_handlers_test ?_) (by intro q; cases q)
    have kind : PySem.W.Looks (model X.prog X.w) h3 (typeOf (.ref a)) cls := fun A Q E t k q => wpAny_typeOf_ref (k _ _ at3) (by rw [z3.1]; exact q)
    have asks := PySem.W.exm_one (M := model X.prog X.w) J3.kIn kind hb
    have name : ∀ {Q : Value → Shared → Prop} {E : Value → Shared → Prop}, Q c { s2 with heap := h3 } → wpAny (model X.prog X.w) (X.A.mark (some (.ref a))) (eval (.Name x np) X.env) Q E { s2 with heap := h3 } := fun {Q E} q => by
      obtain ⟨g1, g2, g3 | ⟨g3, g4, g5⟩⟩ := hnm
      · exact ld_glob (X := X.suite a ((a, o3) :: (X.pn ++ pins))) S3 g1 g3 q g2
      · exact ld_blt (X := X.suite a ((a, o3) :: (X.pn ++ pins))) S3 g1 g3 g4 q g5 g2
    refine name (asks.here ?_)
    cases b with
    | true =>
      refine codeAny_handlers_suite_as ?_
      refine lands_againZ fly fun h4 fly4 up4 => ?_
      have J4 : Inv X pins σ2 H2 { s2 with heap := h4 } := J.landed nb fly4.1 ((up.trans up3).trans up4) eos bare
      obtain ⟨o4, vs4, at4, z4, f4⟩ := fly4.there
      have S4 := J4.suite at4 f4 na nL nF
      refine store_ok (X := X.suite a ((a, o4) :: (X.pn ++ pins))) (v := .ref a) S4 hN hi (.inl hloc) rfl (fun s5 S5 => ?_) (.inr hloc)
      refine wpAny_mono ((hsuite a o4 cls d (X.pn ++ pins) z4 ⟨_, f4⟩).run [] s5 _ H2 _ S5 (yes rfl a na)) (fun f s6 hs => ?_) (fun _ _ z => False.elim z)
      have ends : ∀ {σ6 : L2.St} {H6 : Hp} {Q : Shared → Prop}, Inv (X.suite a ((a, o4) :: (X.pn ++ pins))) [] σ6 H6 s6 → (∀ s7, Inv X pins (σ6.set i none) (upd H6 a (exk a cls d)) s7 → Q s7) →
          wpAny (model X.prog X.w) X.A (do bindName X.env n .none; unbindBehindTheSuite X.env n hpos) (fun _ s7 => Q s7) X.xe s6 := fun {σ6 H6 Q} S6 hq => by
        have J6 : Inv X ((a, o4) :: pins) σ6 H6 s6 := (S6.unsuite ok).pins_of fun p hp => by
          rcases List.mem_cons.mp hp with q | q
          · rw [q]
            exact S6.pin (a, o4) (List.mem_append_left _ List.mem_cons_self)
          · exact S6.pin p (List.mem_append_left _ (List.mem_cons_of_mem _ (List.mem_append_right _ q)))
        exact gone_ok J6 hN hi hloc fun s7 J7 => hq s7 (track J7 newA apart z4 f4)
      cases f with
      | next =>
        obtain ⟨σ6, H6, S6, q6⟩ := hs
        exact ends S6 fun s7 J7 => ⟨_, _, J7, q6⟩
      | brk =>
        obtain ⟨σ6, H6, S6, q6⟩ := hs
        exact ends S6 fun s7 J7 => ⟨_, _, J7, q6⟩
      | cont =>
        obtain ⟨σ6, H6, S6, q6⟩ := hs
        exact ends S6 fun s7 J7 => ⟨_, _, J7, q6⟩
      | ret u =>
        obtain ⟨v6, σ6, H6, S6, r6, q6⟩ := hs
        exact ends S6 fun s7 J7 => ⟨_, _, _, J7, r6, q6⟩
    | false =>
      show wpAny _ X.A (handleBy (.ref a) X.env []) _ _ _
      refine wpAny_handleBy_nil ?_
      obtain ⟨k1, k2, k3, o5, vs5, T5, oT, ts5, at5, z5, f5, h5, r5⟩ := id fly
      unfold PySem.passOn
      refine wpAny_bind (wpAny_field at5 f5 h5 ?_)
      rw [if_neg (show ¬ ((Value.ref T5 == Value.none) = true) from by simp)]
      have leave : wpAny (model X.prog X.w) X.A (setFlight (.ref a) X.env.frame) (fun _ s4 => wpAny (model X.prog X.w) X.A (throw (.ref a) : Sem Flow) (SP X pins D) X.xe s4) X.xe { s2 with heap := h3 } := by
        rw [hfrm]
        refine setFlight_upZ fly fun h4 noted up4 => wpAny_throw (out _ _ ?_)
        exact ⟨a, B, sI, pins, σ2, H2, cls, d, rfl, J, nb, (up.trans up3).trans up4, .inr (.inr (by rw [hstk]; exact noted)), na, eos, bare, no rfl⟩
      first
        | exact wpAny_bind (wpAny_pure (wpAny_bind leave))
        | exact wpAny_bind leave
  refine wpAny_mono run (fun f s1 hs => ?_) (fun e s1 he => he)
  cases f with
  | next =>
    obtain ⟨σ1, H1, J1, q⟩ := hs
    exact wpAny_execs_nil ⟨σ1, H1, J1.ofTry ok, q⟩
  | brk =>
    obtain ⟨σ1, H1, J1, q⟩ := hs
    exact ⟨σ1, H1, J1.ofTry ok, q⟩
  | cont =>
    obtain ⟨σ1, H1, J1, q⟩ := hs
    exact ⟨σ1, H1, J1.ofTry ok, q⟩
  | ret u =>
    obtain ⟨v, σ1, H1, J1, r, q⟩ := hs
    exact ⟨v, σ1, H1, J1.ofTry ok, r, q⟩
end
end FX

/-! Laws with lambdas: tables of code objects, in the Hook and at the end. -/
namespace FLm
open PySem PySem.Spec PyProof.Rows L2 FL FR FH FX FE He LamX
/-! ### the def's code object and its table -/
def codeX (K : PySem.W.Frag) (d : DX) : Addr := match K.lookup (d.at_ K) with
  | some ⟨_, _, .func fd, _⟩ => (match fd.code with
    | .ref c => c
    | _ => 0)
  | _ => 0
def tabX (K : PySem.W.Frag) (d : DX) : Addr := tabOf K (codeX K d)
def codeB (K : PySem.W.Frag) (c P : Addr) : Bool := match K.lookup c with
  | some ⟨.type t, _, .fields vs, _⟩ => decide (t = "code") && (decide (vs[11]? = some (.ref P)) && (decide (c ≠ P) && ((match vs.getD 18 .none with | .str _ _ => true | _ => false) && ((match vs.getD 7 .none with | .int _ _ => true | _ => false) &&
    ((match vs.getD 9 .none with | .bool _ => true | _ => false) && (match vs.getD 10 .none with | .int _ _ => true | _ => false))))))
  | _ => false
theorem codeB_ok {K : PySem.W.Frag} {c P : Addr} {h : Heap} (kin : K.In h) (e : codeB K c P = true) : PySem.W.CodeHd h c P := by
  unfold codeB at e
  cases q : K.lookup c with
  | none =>
    rw [q] at e
    cases e
  | some o =>
    obtain ⟨oc, od, dt, osl⟩ := o
    rw [q] at e
    cases oc with
    | type t =>
      cases dt with
      | fields vs =>
        obtain ⟨e1, e⟩ := ba e
        obtain ⟨e2, e⟩ := ba e
        obtain ⟨e3, e⟩ := ba e
        obtain ⟨e4, e⟩ := ba e
        obtain ⟨e5, e⟩ := ba e
        obtain ⟨e6, e7⟩ := ba e
        have g1 := of_decide_eq_true e1
        have g2 := of_decide_eq_true e2
        have g3 := of_decide_eq_true e3
        subst g1
        have gd : vs.getD 11 .none = .ref P := by rw [Array.getD_eq_getD_getElem?, g2] <;> rfl
        cases s18 : vs.getD 18 .none with
        | str file tf =>
          cases s7 : vs.getD 7 .none with
          | int flags tg =>
            cases s9 : vs.getD 9 .none with
            | bool inF =>
              cases s10 : vs.getD 10 .none with
              | int text tt => exact ⟨_, vs, file, tf, flags, tg, inF, text, tt, kin _ _ q, rfl, rfl, g2, gd, s18, s7, s9, s10, g3⟩
              | _ => rw [s10] at e7; cases e7
            | _ => rw [s9] at e6; cases e6
          | _ => rw [s7] at e5; cases e5
        | _ => rw [s18] at e4; cases e4
      | _ => cases e
    | _ => cases dt <;> cases e
def tabB (K : PySem.W.Frag) (g : Addr → Option Obj) (d : DX) : Bool := codeB K (codeX K d) (tabX K d) && (match g (tabX K d) with
  | some o => emptyTab o
  | none => false)
/-- what is known of a def with lambdas -/
def TabH (K : PySem.W.Frag) (h : Heap) (d : DX) : Prop := PySem.W.CodeHd h (codeX K d) (tabX K d) ∧ h.get? (tabX K d) = some { cls := .none, data := .fields #[] } ∧ K.lookup (tabX K d) = none
/-! ### the Hook -/
abbrev AlL : Type := FH.AlX × (Bool × Bool)
def obsL (n : Nat) (fa : List Ft) (fn lm : List DX) (g : Addr → Option Obj) : AlL := (obsX fa fn (frT g (List.range n)), (lm.all fun d => tabB (frT g (List.range n)) g d, decide ((lm.map fun d => tabX (frT g (List.range n)) d).Nodup)))
def hookL (n : Nat) (fa : List Ft) (fn lm : List DX) : PySem.W.Hook where
  α := AlL
  obs := fun s => obsL n fa fn lm s.heap.get?
  val := fun _ => (valX fn, (true, true))
  says := fun _ h => ∃ K : PySem.W.Frag, K.In h ∧ SaysX fa fn K ∧ (lm.map fun d => tabX K d).Nodup ∧ ∀ d ∈ lm, TabH K h d
  of := fun w s e => by
    obtain ⟨e1, e0⟩ := Prod.mk.inj e
    obtain ⟨e2, e3⟩ := Prod.mk.inj e0
    refine ⟨frT s.heap.get? (List.range n), frT_in, e1, of_decide_eq_true e3, fun d hd => ?_⟩
    obtain ⟨c1, c2⟩ := ba (List.all_eq_true.mp e2 d hd)
    have kin : (frT s.heap.get? (List.range n)).In s.heap := frT_in
    cases q : s.heap.get? (tabX (frT s.heap.get? (List.range n)) d) with
    | none =>
      rw [q] at c2
      cases c2
    | some o =>
      rw [q] at c2
      exact ⟨codeB_ok kin c1, by rw [q, emptyTab_eq c2], frT_none q c2⟩
  keeps := fun _ h h' ⟨K, hK, c, dn, t⟩ k => ⟨K, PySem.W.Frag.In.keeps hK k, c, dn, fun d hd => by
    obtain ⟨⟨o, vs, file, tf, flags, tg, inF, text, tt, e, r⟩, t2, t3⟩ := t d hd
    exact ⟨⟨o, vs, file, tf, flags, tg, inF, text, tt, k _ _ e, r⟩, k _ _ t2, t3⟩⟩
theorem obsL_eq {n : Nat} {fa : List Ft} {fn lm : List DX} {g : Addr → Option Obj} {s : Shared} (h : ∀ a, g a = s.heap.get? a) : obsL n fa fn lm g = (hookL n fa fn lm).obs s := by
  have e : g = s.heap.get? := funext h
  rw [e] <;> rfl
/-- the tables at the base, for the defs of lm -/
def Tb (lm : List DX) (K : PySem.W.Frag) (mg : Str → Option Value) (base : Heap) : Prop := ∀ d ∈ lm, TabB base mg (codeX K d) (tabX K d)
/-! ### the end -/
def scT (K : PySem.W.Frag) (ts : List Addr) (a : Addr) (u : HO) : Hp := fun b => if b ∈ ts then some (.tbl #[]) else scH K a u b
theorem call_tab {P : Program} {w : World} {K : PySem.W.Frag} {mg mb : Str → Option Value} {k : Nat} {fa a : Addr} {lm : List DX} {sp : Sp} {s : Shared} {vs : List Value} {ns : List Int}
    (kin : K.In s.heap) (tabs : ∀ d ∈ lm, TabH K s.heap d) (hns : s.heap.Ns mainGlobals mg) (hbn : s.heap.Ns builtinsNs mb) (hbb : ∀ x : Str, x ≠ "__name__" → mb x = bootBuiltins x) (hlim : s.heap.NoLimit) (hgen : s.gens = #[])
    (hmod : ∃ (bm : Addr) (ob : Obj), mg "__builtins__" = some (.ref bm) ∧ bm ≠ builtinsNs ∧ s.heap.get? bm = some ob ∧ ob.cls = .type "module" ∧ ob.dict = some builtinsNs ∧ ob.data = .plain)
    (hobj : s.heap.get? a = some { cls := .type "list", data := .seq vs.toArray }) (hint : IntsAre vs ns) (hlen : ns.length ≤ sizeLine) (hk : k ≤ 40)
    (F : ∀ base : Heap, K.In base → base.Ns mainGlobals mg → Tb lm K mg base → Fn true P w K mg base k fa [] sp)
    (hsp : ∀ H : Hp, (∀ d ∈ lm, H (tabX K d) = some (.tbl #[])) → SqL K H a (ns.map V.int) → sp [.ref a] H (fun v _ => v = .bl true) fun _ _ _ => False) :
    codeAny (model P w) callerA (.call (.ref fa) ⟨[.ref a], []⟩) (fun r s' => r = .ok (.ret (.bool true)) ∧ OldK s.heap s'.heap ∧ s'.os = s.os ∧ AllBare s'.gens) s := by
  have rel := vals_ints hint
  have ln := hint.length
  obtain ⟨so, eso⟩ : ∃ so : Obj, so = { cls := .type "list", data := .seq vs.toArray } := ⟨_, rfl⟩
  rw [← eso] at hobj
  obtain ⟨ts, ets⟩ : ∃ ts : List Addr, ts = lm.map fun d => tabX K d := ⟨_, rfl⟩
  have tsAt : ∀ {b : Addr}, b ∈ ts → s.heap.get? b = some { cls := .none, data := .fields #[] } ∧ K.lookup b = none := fun {b} hb => by
    rw [ets] at hb
    obtain ⟨d, hd, e⟩ := List.mem_map.mp hb
    rw [← e]
    exact (tabs d hd).2
  have aT : a ∉ ts := fun hb => by
    have q := (tsAt hb).1
    rw [hobj, eso] at q
    have q2 : Data.seq vs.toArray _ = Data.fields #[] := congrArg Obj.data (Option.some.inj q)
    cases q2
  obtain ⟨H, eH⟩ : ∃ H : Hp, H = scT K ts a (.frz so (.lst (ns.map V.int))) := ⟨_, rfl⟩
  have inT : ∀ {b : Addr}, b ∈ ts → H b = some (.tbl #[]) := fun {b} hb => by
    rw [eH]
    exact if_pos hb
  have outT : ∀ {b : Addr}, b ∉ ts → H b = scH K a (.frz so (.lst (ns.map V.int))) b := fun {b} hb => by
    rw [eH]
    exact if_neg hb
  have only : ∀ {b : Addr} {v : HO}, H b = some v → (b ∈ ts ∧ v = .tbl #[]) ∨ (b = a ∧ K.lookup a = none ∧ v = .frz so (.lst (ns.map V.int))) := fun {b v} h => by
    by_cases hb : b ∈ ts
    · rw [inT hb] at h
      exact .inl ⟨hb, (Option.some.inj h).symm⟩
    · rw [outT hb] at h
      exact .inr (scH_some h)
  have ok : HOk P w H s.heap := by
    intro b v h
    rcases only h with ⟨hb, e⟩ | ⟨e1, _, e3⟩
    · subst e
      exact (tsAt hb).1
    · subst e1 e3 eso
      exact ⟨hobj, by rw [List.length_map]; exact hlen, vs, _, rel, hobj⟩
  have sq : SqL K H a (ns.map V.int) := by
    cases hka : K.lookup a with
    | none => exact .inl (.inr ⟨so, by rw [outT aT]; exact if_pos ⟨rfl, hka⟩⟩)
    | some o =>
      have z := kin a o hka
      rw [hobj] at z
      obtain rfl : so = o := Option.some.inj z
      subst eso
      exact .inr ⟨_, vs.toArray, _, hka, rfl, rfl, rfl, by rw [List.size_toArray, ln]; exact hlen, by simpa using rel⟩
  have free : ∀ {b : Addr} {o : Obj}, s.heap.get? b = some o → (b = a → K.lookup a ≠ none ∨ o ≠ so) → o ≠ { cls := .none, data := .fields #[] } → H b = none := fun {b o} h n m => by
    cases e : H b with
    | none => rfl
    | some v =>
      rcases only e with ⟨hb, _⟩ | ⟨e1, e2, _⟩
      · rw [(tsAt hb).1] at h
        exact absurd (Option.some.inj h).symm m
      · rcases n e1 with z | z
        · exact absurd e2 z
        · subst e1
          rw [hobj] at h
          exact absurd (Option.some.inj h).symm z
  have toBase : ∀ {b : Addr} {m : Str → Option Value}, s.heap.Ns b m → (hidT s.heap H).Ns b m := fun {b m} ⟨o, es, ep, h, d, r⟩ => ⟨o, es, ep, hidT_get h (free h (fun _ => .inr fun z => by
    rw [z, eso] at d
    have d' : Data.seq vs.toArray _ = Data.dict es ep := d
    cases d') fun z => by
    rw [z] at d
    cases d), d, r⟩
  have kbase : K.In (hidT s.heap H) := fun b o h => hidT_get (kin b o h) (by
    cases e : H b with
    | none => rfl
    | some v =>
      rcases only e with ⟨hb, _⟩ | ⟨e1, e2, _⟩
      · rw [(tsAt hb).2] at h
        cases h
      · rw [e1, e2] at h
        cases h)
  have mod : Mod K mg (hidT s.heap H) := ⟨kbase, toBase hns, ⟨mb, toBase hbn, hbb⟩, let ⟨mc, g1, g2⟩ := hlim; ⟨mc, toBase g1, g2⟩⟩
  have tb : Tb lm K mg (hidT s.heap H) := fun d hd => by
    obtain ⟨⟨o, us, file, tf, flags, tg, inF, text, tt, e1, r1, r2, r3, rest⟩, t2, t3⟩ := tabs d hd
    refine ⟨⟨o, us, file, tf, flags, tg, inF, text, tt, hidT_get e1 (free e1 (fun _ => .inr fun z => ?_) fun z => ?_), r1, r2, r3, rest⟩, ?_, fun z => ?_⟩
    · rw [z, eso] at r2
      cases r2
    · rw [z] at r1
      cases r1
    · obtain ⟨bm, ob, b1, b2, b3, b4, b5, b6⟩ := hmod
      have nG : bm ≠ mainGlobals := fun q => by
        obtain ⟨o, es, ep, e, hd, _⟩ := hns
        rw [q, e] at b3
        cases b3
        rw [hd] at b6
        cases b6
      have nP : bm ≠ tabX K d := fun q => by
        rw [q, t2] at b3
        cases b3
        cases b6
      refine ⟨bm, ob, b1, b2, nG, nP, hidT_get b3 (free b3 (fun _ => .inr fun z => ?_) fun z => ?_), b4, b5, b6⟩
      · rw [z, eso] at b6
        cases b6
      · rw [z] at b6
        cases b6
    · obtain ⟨o, es, ep, e, hd, _⟩ := hns
      rw [z, t2] at e
      cases e
      cases hd
  have env : Env0 P w K mg (hidT s.heap H) callerA [] s H := by
    refine ⟨rfl, mod, fun b o h => of_hidT h, Nat.le_of_eq (hidT_size _ _), trivial, ?_, ok, .of_eq hgen⟩
    intro b hb
    cases (show b ∈ ([] : List Addr) from hb)
  have run := F _ kbase (toBase hns) tb callerA [] s H [.ref a] [] [.ref a] [] _ _ (room_caller hk) env (.cons rfl .nil) .nil rfl (hsp H (fun d hd => inT (by rw [ets]; exact List.mem_map.mpr ⟨d, hd, rfl⟩)) sq)
  refine codeAny_mono run fun r s' h => ?_
  cases r with
  | error e =>
    obtain ⟨_, _, _, _, _, _, _, _, _, _, _, _, z⟩ := (show L2.CX P w [] H s (fun _ _ _ => False) e s' from h)
    exact z.elim
  | ok fl =>
    cases fl with
    | ret u =>
      obtain ⟨v, H', os, bare, un, ok', rv, q⟩ := h
      have qv : v = .bl true := q
      subst qv
      obtain rfl : u = Value.bool true := rv
      have stays : ∀ b o, b ∉ ts → s.heap.get? b = some o → s'.heap.get? b = some o := fun b o nb hb => by
        cases e : H b with
        | none =>
          refine un.keep b o hb e (fun z => ?_) (by simp)
          cases (show b ∈ ([] : List Addr) from z)
        | some v =>
          rcases only e with ⟨hb2, _⟩ | ⟨_, _, e3⟩
          · exact absurd hb2 nb
          · subst e3
            obtain ⟨g1, _⟩ := ok b _ e
            obtain ⟨g2, _⟩ := ok' b _ (un.frzs b so _ e)
            rw [hb] at g1
            rw [g2, Option.some.inj g1]
      have grows : ∀ b ∈ ts, ∃ more : Array Value, s'.heap.get? b = some { cls := .none, data := .fields more } := fun b hb => by
        obtain ⟨more, z⟩ := un.tbls b #[] (inT hb)
        exact ⟨_, ok' b _ z⟩
      refine ⟨rfl, ⟨fun b o hb => ?_, fun b o hb => ?_⟩, os, bare⟩
      · by_cases hb2 : b ∈ ts
        · obtain ⟨more, hm⟩ := grows b hb2
          have e1 := (tsAt hb2).1
          rw [hb] at e1
          cases e1
          rw [ets] at hb2
          obtain ⟨d, hd, ed⟩ := List.mem_map.mp hb2
          subst ed
          exact .inr (.inl ⟨((tabs d hd).1.tab (tabs d hd).2.1).isCodeTable, rfl, #[], more, rfl, by rw [Array.empty_append]; exact hm⟩)
        · exact .inl (stays b o hb2 hb)
      · by_cases hb2 : b ∈ ts
        · obtain ⟨more, hm⟩ := grows b hb2
          exact ⟨_, hm⟩
        · exact ⟨o, stays b o hb2 hb⟩
    | next => exact False.elim h
    | brk => exact False.elim h
    | cont => exact False.elim h
theorem walk_tab {l : PySem.W.OpenLaw} {n k : Nat} {q : Program} {loose : List Str} {XP : (Str → Option Value) → Heap → Prop} {YP : World → Heap → Prop} {d : DefRec} {lm : List DX}
    (hn : l.most = some n) (hn2 : n ≤ sizeLine) (hdf : d.params.defaults = []) (hk : k ≤ 40)
    (F : ∀ (w : World) (mg : Str → Option Value) (fa : Addr) (h : Heap), YP w h → h.Ns mainGlobals mg → mg d.name = some (.ref fa) →
      ∃ (K : PySem.W.Frag) (sp : Sp), K.In h ∧ (∀ d ∈ lm, TabH K h d) ∧ (∀ (H : Hp) (a : Addr) (ns : List Int), ns.length ≤ n → (∀ d ∈ lm, H (tabX K d) = some (.tbl #[])) → SqL K H a (ns.map V.int) → sp [.ref a] H (fun v _ => v = .bl true) fun _ _ _ => False) ∧
        ∀ base : Heap, K.In base → base.Ns mainGlobals mg → Tb lm K mg base → Fn true l.prog w K mg base k fa [] sp) :
    PySem.W.WalkO q loose XP YP l.row.toRowW d [] (fun f vs => PySem.call f vs) := by
  refine Att.attach_call hn hdf fun w s0 s1 mg mb f o pm cd dc p us is G Y hf hdat hcode hm hp hint hlen hgen => ?_
  obtain ⟨K, sp, kin, ht, h1, h2⟩ := F w mg f _ Y G.T.g hm
  exact call_tab kin ht G.T.g G.T.b G.T.builtins G.T.nolimit hgen G.T.bmain hp hint (Nat.le_trans hlen hn2) hk h2 fun H hT hS => h1 H p is hlen hT hS
/-! ### lambdas in a def -/
def qL (d : DX) : Str := d.qual ++ ".<locals>." ++ "<lambda>"
/-- the tables of all defs with lambdas -/
def TL (lm : List DX) (K : PySem.W.Frag) : List (Addr × Str) := lm.map fun d => (tabX K d, qL d)
theorem TL_mem {lm : List DX} {K : PySem.W.Frag} {d : DX} (h : d ∈ lm) : (tabX K d, qL d) ∈ TL lm K := List.mem_map.mpr ⟨d, h, rfl⟩
theorem nodup_map {α β : Type} {f : α → β} : ∀ {l : List α}, (l.map f).Nodup → ∀ {x y : α}, x ∈ l → y ∈ l → f x = f y → x = y
  | [], _, _, _, h, _, _ => nomatch h
  | z :: r, hn, x, y, hx, hy, e => by
    rw [List.map_cons, List.nodup_cons] at hn
    rcases List.mem_cons.mp hx with ex | mx <;> rcases List.mem_cons.mp hy with ey | my
    · rw [ex, ey]
    · exact absurd (show f z ∈ r.map f from List.mem_map.mpr ⟨y, my, by rw [← e, ex]⟩) hn.1
    · exact absurd (show f z ∈ r.map f from List.mem_map.mpr ⟨x, mx, by rw [e, ey]⟩) hn.1
    · exact nodup_map hn.2 mx my e
theorem TL_u {lm : List DX} {K : PySem.W.Frag} {d : DX} (dn : (lm.map fun d => tabX K d).Nodup) (h : d ∈ lm) : ∀ p ∈ TL lm K, p.1 = tabX K d → p.2 = qL d := fun p hp e => by
  obtain ⟨d2, h2, rfl⟩ := List.mem_map.mp hp
  rw [nodup_map dn h2 h e]
theorem TL_nil {lm : List DX} {K : PySem.W.Frag} {H : Hp} (h : ∀ d ∈ lm, H (tabX K d) = some (.tbl #[])) : Tabs (TL lm K) H := fun p hp => by
  obtain ⟨d, hd, rfl⟩ := List.mem_map.mp hp
  exact TabS.nil (h d hd)
/-- the code object of a def that runs -/
theorem code_of {K : PySem.W.Frag} {d : DX} {fd : FuncData} (F : FunX K d fd) : fd.code = .ref (codeX K d) := by
  obtain ⟨oc, od, dV, kV, doc, pm, an, cdv, ct, osl, e, lk, hcd, _, _⟩ := F.ex
  obtain ⟨c, ec⟩ := codeIn_ref hcd
  subst e ec
  unfold codeX
  rw [lk] <;> rfl
/-- a def's body, its code object told -/
theorem fn_code {gd : Bool} {P : Program} {w : World} {K : PySem.W.Frag} {mg : Str → Option Value} {base : Heap} {k : Nat} {d : DX} {fd : FuncData} {N ps : List Str} {sp : Sp} (F : FunX K d fd) (S : FnScope N ps (defScope d.st)) (len : ∀ vs H Q E, sp vs H Q E → vs.length = ps.length) (hb : Binds K fd ps [])
    (hbody : ∀ (A : Around) (outer : List Env) (s : Shared) (H : Hp) (vs : List V) (Q : VK) (E : XK), Rm gd k (A.deeper (envOfC d.qual (defScope d.st) s.heap.objs.size (d.at_ K) (.ref (codeX K d)))) → sp vs H Q E →
      ∃ t, PSs (cxOf (L2.CX P w) P w K mg base N d.qual (defScope d.st) (d.at_ K) (.ref (codeX K d)) A outer s H E) (defBody d.st) t ∧ t { nx := fun _ H' => Q .non H', rt := Q } (start N vs) H) : Fn gd P w K mg base (k + 1) (d.at_ K) [] sp := by
  intro A outer s H us ws vs zs Q E hr e0 r rz l hs
  obtain ⟨oc, od, dV, kV, doc, pm, an, cdv, ct, osl, e, lk, hcd, _, _⟩ := F.ex
  have hz : zs = [] := List.length_eq_zero_iff.mp l
  subst hz
  cases rz
  rw [List.append_nil] at hs
  have hl := len _ _ _ _ hs
  have ec : cdv = .ref (codeX K d) := by
    rw [← code_of F, e] <;> rfl
  have hu : (us ++ ([] : List Value)).length = ps.length := by rw [List.append_nil, ← r.length]; exact hl
  have bind := hb s us (e0.mod.kin.keeps fun b o q => (e0.bs b o q).1) hu
  subst e
  have B : StX.Bnd (L2.CX P w) P w K mg base (PySem.W.fnOf d.name d.qual (defArgs d.st) (defBody d.st) (defScope d.st) dV kV doc pm an cdv ct) ⟨us, []⟩ ps A outer s H E (fun xs H2 => sp xs H2 Q E) := fun A' Ex Q' h => by
    refine bind _ _ _ _ ?_
    have z := h s H vs us e0 Un.refl rfl (fun _ _ z => z) r hl hs
    rw [List.append_nil]
    exact z
  refine StX.run_bnd lk hcd S hr.r e0 B fun s2 H2 xs g hr2 => ?_
  rw [ec] at hr2 ⊢
  exact hbody A outer s2 H2 xs Q E ⟨hr2, fun z => guards_deeper (hr.g z)⟩ g
/-- .. in the lambda's own context -/
theorem passLam {X : Cx} {A : Around} {outer : List Env} {s : Shared} {H : Hp} {E : XK} {scope : Scope} {f c : Addr} : Passes (L2.CX (lamCx X A outer s H E scope f c).prog (lamCx X A outer s H E scope f c).w) (lamCx X A outer s H E scope f c) E := passes_call (takes_of rfl rfl rfl rfl) (fun _ _ _ _ h => h)
end FLm

/-! isinstance of a kept exception; comprehensions with a test. -/
namespace FX
open PySem PySem.Spec PyProof.Rows L2 FL FR He FH PySem.W PySem.Calls
section
variable {prog : Program} {w : World} {A : Around} {E : Value → Shared → Prop} {s : Shared} {K : Frag} {x D : Addr} {ox : Obj} {od : Option Obj}
theorem class_exc {Q : Option Value → Shared → Prop} (c : ExcC K D) (kin : K.In s.heap) (I : InstAt s.heap x ox D od) (h : Q (some (.ref D)) { s with toks := s.toks + 1 }) : wpAny (model prog w) A (getAttr? (.ref x) "__class__") Q E s := by
  have found : findObj K D od "__class__" = some (.bind (.builtin "getset_descriptor.__get__") (.builtin "object.__class__")) := by
    obtain ⟨cd, hc, _⟩ := any_some c.hd
    have some_ : (clsIn K D).isSome = true := by rw [hc] <;> rfl
    cases od with
    | none => exact findObj_dataN some_ c.ha c.hn c.ht
    | some o => exact findObj_data some_ c.ha c.hn c.ht
  obtain ⟨hp, g, d, t, os⟩ := s
  have T0 := I.type (M := model prog w)
  have T1 := looks_findIn (M := model prog w) kin c.hg
  have T2 := looks_findIn (M := model prog w) kin c.hk
  have T3 := looks_find (M := model prog w) kin I found
  have isB : Looks (model prog w) hp (isInstance (.ref x) (.type "BaseException")) true := T0.andThen (looks_subIn kin c.hs)
  have q0 : (false && onTheHeap (Value.builtin "BaseException.__getattribute__")) = false := rfl
  have q1 : (onTheHeap (Value.ref D) && Value.builtin "BaseException.__getattribute__" == Value.builtin "object.__getattribute__") = false := by
    have z : (Value.builtin "BaseException.__getattribute__" == Value.builtin "object.__getattribute__") = false := by decide +kernel
    rw [z] <;> rfl
  unfold getAttr? getAttrBy? getAttrBy
  refine wpAny_bind (wpAny_mkText (wpAny_bind (wpAny_attempt (wpAny_holding (wpAny_bind (T0.at (wpAny_bind (T1.at ?_))))))))
  show wpAny _ _ (if (onTheHeap (Value.ref D) && Value.builtin "BaseException.__getattribute__" == Value.builtin "object.__getattribute__") = true then _ else _) _ _ _
  rw [q1, if_neg Bool.false_ne_true]; unfold getAttrByItsOwn hookBefore
  refine wpAny_bind ?_
  rw [if_pos (show onTheHeap (Value.ref D) = true from rfl)]
  refine T2.at (wpAny_bind (wpAny_attempt (wpAny_holding ?_)))
  unfold callGetattribute
  rw [q0, if_neg Bool.false_ne_true]; unfold boundAndCalled
  rw [PySem.F.excAttr_ValueError.ga.bind (.ref x)]; refine wpAny_bind (wpAny_pure ?_)
  show wpAny _ _ (call (.builtin "BaseException.__getattribute__") [.ref x, .str "__class__" t]) _ _ _
  refine wpAny_call (codeAny_call_builtin PySem.F.excAttr_ValueError.ga.plain PySem.F.entry_bexc_ga (@check_slot (model prog w) _ _ ⟨hp, g, d, t + 1, os⟩ "BaseException.__getattribute__" "BaseException" "__getattribute__" (.ref x) [.str "__class__" t] [] _ (by decide +kernel) (by decide +kernel) isB (PySem.F.args_bexc_ga (.ref x) (.str "__class__" t)) ?_))
  unfold Builtin.«object.__getattribute__»; refine wpAny_bind (wpAny_of_eq (a := ((Value.ref x : Value), [Value.str "__class__" t])) (by first | rfl | (simp only [slotArgs]; rfl)) (wpAny_bind (wpAny_pure (wpAny_bind (T0.at (wpAny_bind (T3.at ?_)))))))
  show wpAny _ _ (holding [Value.builtin "object.__class__"] (call (.builtin "getset_descriptor.__get__") [.builtin "object.__class__", .ref x, .ref D]) >>= ret) _ _ _
  refine wpAny_bind (wpAny_holding (wpAny_call (class_get (s := ⟨hp, g, d, t + 1, os⟩) (ox := ox) (od := od) kin I c.hm (wpAny_pure ?_))))
  show wpAny _ _ (handedOut (.ref D)) _ _ _
  rw [handedOut_of (v := .ref D) rfl]
  first
    | exact wpAny_pure (wpAny_pure h)
    | exact wpAny_pure h
    | exact wpAny_pure (wpAny_bind (wpAny_pure (wpAny_pure h)))
theorem kit_exc (c : ExcC K D) : KitX K (.ref x) (.ref D) (fun h => InstAt h x ox D od) where
  ty := fun _ _ _ I => I.type
  it := fun _ _ kin _ => by
    obtain ⟨cd, hc, _⟩ := any_some c.hd
    unfold clsIn at hc
    split at hc
    · rename_i _ _ _ _ ho
      intro A' Q' E' s' k q
      unfold isType loadHead
      exact wpAny_bind (wpAny_loadPart (k _ _ (kin _ _ ho)) (wpAny_pure q))
    · cases hc
  ne := fun h tp dd its n sl kin htp => by
    obtain ⟨cd, hc, _⟩ := any_some c.hd
    refine Bool.eq_false_iff.mpr fun q => ?_
    obtain rfl : D = tp := Value.ref.inj (beq_iff_eq.mp q)
    unfold clsIn at hc
    split at hc
    · rename_i _ _ _ _ ho
      have z := (kin _ _ ho).symm.trans htp
      cases z
    · cases hc
  ca := fun kin I k => class_exc c kin I k
end
/-- isinstance(e, C), e kept -/
def rIsK (K : PySem.W.Frag) : List V → Hp → VK → Prop := fun xs H Q => ∃ (a dd D B : Addr) (fs : List (Str × V)) (b : Bool), xs = [.ref a, .ref B] ∧ H a = some (exk a (.ref D) (some dd)) ∧ H dd = some (.xd fs) ∧ ExcC K D ∧ PySem.W.kitOne K (.ref D) (.ref B) = some b ∧ Q (.bl b) H
theorem call_isk {X : Cx} : CallR X (.builtin "isinstance") (rIsK X.K) := by
  intro pins s σ H xs us Q I r h
  obtain ⟨a, dd, D, B, fs, b, rfl, ha, hd, c, e, q⟩ := h
  obtain ⟨u1, u2, rfl, r1, r2⟩ := vals2 r
  obtain rfl : u1 = Value.ref a := r1
  obtain rfl : u2 = Value.ref B := r2
  obtain ⟨⟨o, vs, e1, e2, e3, e4⟩, _, _⟩ := I.hok a _ ha
  obtain ⟨mA, hns, _⟩ := (show ∃ mA, s.heap.Ns1 dd mA ∧ ∀ f, RelO (fs.lookup f) (mA f) from I.hok dd _ hd)
  obtain ⟨od, e5, _⟩ := lookIn_ns hns
  have J : PySem.W.InstAt s.heap a o D (some od) := ⟨e1, e2, by unfold PySem.W.notCls; rw [e4] <;> rfl, by rw [e3]; exact e5⟩
  exact kia_one (kit_exc c) I.kIn J e (fun z => nomatch z) fun tk => ⟨.bl b, H, I.kept (t' := tk) fun _ _ z => z, rfl, q⟩
/-- the fact of such a class -/
def fExcC (C : Str) : Ft := fun K => eqO (PySem.W.findIn K (.ref (ga K C)) "__getattribute__") (some (some (.builtin "BaseException.__getattribute__"))) && (eqO (PySem.W.findIn K (.ref (ga K C)) "__getattr__") (some none) && (decide (PySem.W.subIn K (.ref (ga K C)) (.type "BaseException") = some true) &&
  (PySem.W.hasDictIn K (ga K C) && (eqO (PySem.W.findIn K (.ref (ga K C)) "__class__") (some (some (.builtin "object.__class__"))) && (decide (PySem.W.specialIn K (.builtin "object.__class__") "__get__" = some (some (.builtin "getset_descriptor.__get__"))) &&
  (decide (PySem.W.takesIn K (.builtin "object.__class__") = some true) && decide (PySem.W.mroIn K (ga K C) (.type "object") = some true)))))))
theorem excC_ok {C : Str} {K : PySem.W.Frag} (c : fExcC C K = true) : ExcC K (ga K C) := by
  obtain ⟨c1, c⟩ := ba c
  obtain ⟨c2, c⟩ := ba c
  obtain ⟨c3, c⟩ := ba c
  obtain ⟨c4, c⟩ := ba c
  obtain ⟨c5, c⟩ := ba c
  obtain ⟨c6, c⟩ := ba c
  obtain ⟨c7, c8⟩ := ba c
  exact ⟨eqO_ok c1, eqO_ok c2, of_decide_eq_true c3, c4, eqO_ok c5, of_decide_eq_true c6, of_decide_eq_true c7, of_decide_eq_true c8⟩
/-- except C: is it one? -/
def fExm (C B : Str) (b : Bool) : Ft := fun K => decide (PySem.W.exmOne K (.ref (ga K C)) (.ref (ga K B)) = some b)
theorem exmF_ok {C B : Str} {b : Bool} {K : PySem.W.Frag} (c : fExm C B b K = true) : PySem.W.exmOne K (.ref (ga K C)) (.ref (ga K B)) = some b := of_decide_eq_true c
/-! ### comprehensions with a test -/
def selK (te : TE) (σ : L2.St) (D : Addr) (N : Hp → Prop) (b : Bool) (H : Hp) : Prop := if b = true then te σ H (addK D N) else N H
theorem selK_t {te : TE} {σ : L2.St} {D : Addr} {N : Hp → Prop} {H : Hp} : selK te σ D N true H = te σ H (addK D N) := if_pos rfl
theorem selK_f {te : TE} {σ : L2.St} {D : Addr} {N : Hp → Prop} {H : Hp} : selK te σ D N false H = N H := if_neg Bool.false_ne_true
def lcT (D : Addr) (i : Nat) (Pv : Addr → Nat → List V → Hp → Prop) (H : Hp) : Prop := ∃ acc, H D = some (.lst acc) ∧ acc.length ≤ i ∧ Pv D i acc H
theorem addK_mkT {D : Addr} {i : Nat} {acc : List V} {y : V} {H4 : Hp} {Pv : Addr → Nat → List V → Hp → Prop} (e : H4 D = some (.lst acc)) (l : acc.length ≤ i) (hi : i < 16777215) (p : Pv D (i + 1) (acc ++ [y]) (upd H4 D (.lst (acc ++ [y])))) : addK D (lcT D (i + 1) Pv) y H4 := by
  refine ⟨acc, e, ?_, acc ++ [y], upd_same, by simp; omega, p⟩
  have := sizeLine_eq
  omega
section
variable {σ : L2.St} {H : Hp} {Q : VK} {g : TG} {te : TE} {tt : TT} {vs : List Nat} {J : It} {n : Nat} {G : Hp → Prop} {Y : Nat → Hp → V → Hp → Prop}
theorem lcK_itT (w : Walk J n G Y) (Pv : Addr → Nat → List V → Hp → Prop) (h0 : ∀ D H0, IsNew H D (.lst []) H0 → Pv D 0 [] H0) (hG : ∀ D i acc H1, H D = none → i ≤ n → H1 D = some (.lst acc) → Pv D i acc H1 → G H1)
    (hs : ∀ D i x acc H1 H2, H D = none → i < n → H1 D = some (.lst acc) → acc.length ≤ i → Pv D i acc H1 → Y i H1 x H2 → g x (wipe σ vs) H2 fun σ2 H3 => wipe σ2 vs = wipe σ vs ∧ tt σ2 H3 (selK te σ2 D (lcT D (i + 1) Pv)))
    (hd : ∀ D acc H1, H D = none → H1 D = some (.lst acc) → Pv D n acc H1 → Q (.ref D) H1) : lcK g tt te vs σ Q J H := by
  intro D nD
  refine lc_it w (fun i H1 => lcT D i Pv H1) ⟨[], upd_same, Nat.le_refl _, h0 D _ ⟨nD, rfl⟩⟩ (fun i H1 hi ⟨acc, e, _, p⟩ => hG D i acc H1 nD hi e p) ?_ ?_
  · rintro i x H1 H2 hi ⟨acc, e, l, p⟩ y
    exact hs D i x acc H1 H2 nD hi e l p y
  · rintro H1 ⟨acc, e, l, p⟩
    exact hd D acc H1 nD e p
end
/-! ### the call of what was got, as a statement -/
theorem takes_len {X : Cx} {W : WX} (tk : Takes X W) : Takes X (fun cls d σ H => σ.length = X.N.length → W cls d σ H) := fun u s' ⟨a, B, sI, pins, σ, H, cls, d, e, I, nb, up, sky, na, os, ag, w⟩ =>
  tk u s' ⟨a, B, sI, pins, σ, H, cls, d, e, I, nb, up, sky, na, os, ag, w I.len⟩
theorem act_stmt {X : Cx} {W : WX} {a : Str} {p1 p2 pos : Pos} {f c : Addr} {q : Str} {tl : XK → Hp → VK → Prop} {n : Nat} (hn : X.N.length = n)
    (act : ∀ E : XK, (∀ cls d σ' H', E cls d H' → σ'.length = n → W cls d σ' H') → PE X (.Call (.Name a p1) [] [] p2) (fun σZ HZ Q => σZ[0]? = some (some (.ref f)) ∧ HZ c = some (LamX.CodeO c q) ∧ tl E HZ Q)) :
    PSs X [.Expr (.Call (.Name a p1) [] [] p2) pos] (fun D σ H => ∃ E : XK, (∀ cls d σ' H', E cls d H' → σ'.length = n → W cls d σ' H') ∧ σ[0]? = some (some (.ref f)) ∧ H c = some (LamX.CodeO c q) ∧ tl E H (fun _ H' => D.nx σ H')) := by
  refine ⟨fun pins s σ H D I h => ?_⟩
  obtain ⟨E, hW, h1, h2, h3⟩ := h
  exact (pss_one (ps_expr (pos := pos) (act E hW))).run pins s σ H D I ⟨h1, h2, h3⟩
/-- xs != [], whatever the items -/
def rNeNil : R2 := fun x y H Q => ∃ a b, x = .ref a ∧ y = .ref b ∧ ∃ xs, H a = some (.lst xs) ∧ H b = some (.lst []) ∧ Q (.bl (!xs.isEmpty)) H
theorem op_ne_nil {X : Cx} (hu : X.A.units + 64 < cLine) : OpR X (compareOp .NotEq) rNeNil := by
  intro pins s σ H x y v u Q I r1 r2 h
  obtain ⟨a, b, rfl, rfl, xs, ha, hb, q⟩ := h
  obtain rfl : v = Value.ref a := r1
  obtain rfl : u = Value.ref b := r2
  obtain ⟨_, its, n, rv, ea⟩ := (show xs.length ≤ sizeLine ∧ ∃ (its : List Value) (n : Nat), Vals xs its ∧ s.heap.get? a = some { cls := .type "list", data := .seq its.toArray n } from I.hok a _ ha)
  obtain ⟨_, its2, n2, rv2, eb⟩ := (show ([] : List V).length ≤ sizeLine ∧ ∃ (its : List Value) (n : Nat), Vals [] its ∧ s.heap.get? b = some { cls := .type "list", data := .seq its.toArray n } from I.hok b _ hb)
  cases rv2
  have la : s.heap.IsList a its.toArray := ⟨_, ea, rfl, _, rfl⟩
  have lb : s.heap.IsList b (#[] : Array Value) := ⟨_, eb, rfl, _, rfl⟩
  have room : X.A.units < cLine := by omega
  cases xs with
  | nil =>
    cases rv
    refine SeqAt.RcNeAt.lists (e := fun _ => true) la lb rfl room (fun j h1 h2 => absurd h2 (by simp)) X.prog X.w X.xe _ ?_
    exact ⟨.bl false, H, I, rfl, q⟩
  | cons z r =>
    cases rv with
    | cons r1 rr =>
      refine SeqAt.RcNeAt.lists_lengths la lb (by simp) room X.prog X.w X.xe _ ?_
      exact ⟨.bl true, H, I, rfl, q⟩
theorem r_dnew {σ : L2.St} {H : Hp} {Q : VK} : tDNewK σ H Q = ∀ p H2, IsNew H p (.dK []) H2 → Q (.ref p) H2 := by
  unfold tDNewK
  apply propext
  constructor
  · intro q p H2 n
    rw [n.2]
    exact q p n.1
  · intro q p n
    exact q p _ ⟨n, rfl⟩
end FX

/-! Own special methods: __len__. Calls with a lambda, read. -/
namespace FX
open PySem PySem.Spec PyProof.Rows L2 FL FR He FH PySem.W PySem.Calls
theorem r_lam {Tt : List (Addr × Str)} {TT : (XK → Hp → VK → Prop) → Hp → VK → Prop} {t : XK → TE} {σ : L2.St} {H : Hp} {Q : VK} :
    LamX.tLam Tt TT t σ H Q = (LamX.Tabs Tt H ∧ ∀ H1, LamX.ExtN H H1 → LamX.Tabs Tt H1 → TT (fun E H' Q' => t E σ H' Q') H1 Q) := propext Iff.rfl
section
variable {gd : Bool} {X : Cx} {k : Nat} {f C : Addr} {sp : Sp} {E : XK}
/-- an own def called inside a builtin -/
theorem own_in1 {pins : List (Addr × Obj)} {σ : L2.St} {H : Hp} {s : Shared} {us : List Value} {vs : List V} {Q : VK} {R : Value → Shared → Prop} (F : Fn gd X.prog X.w X.K X.mg X.base k f [] sp) (hr : Rm gd (k + 1) X.A) (hx : Passes (L2.CX X.prog X.w) X E)
    (I : Inv X pins σ H s) (r : Vals vs us) (h : sp vs H Q E) (hR : ∀ v H' u s', Inv X pins σ H' s' → RelV v u → Q v H' → R u s') : wpAny (model X.prog X.w) X.A.in1 (call (.ref f) us) R X.xe s := by
  refine wpAny_call (codeAny_mono (F X.A.in1 X.stack s H us [] vs [] Q E hr.in1 I.env0.in1 r .nil rfl (by rw [List.append_nil]; exact h)) fun r' s' hq => ?_)
  cases r' with
  | error e => exact hx pins σ H s e s' I hq
  | ok fl =>
    cases fl with
    | ret u =>
      obtain ⟨v, H', I3, rv, q3⟩ := I.after hq
      exact hR v H' u s' I3 rv q3
    | next => exact False.elim hq
    | brk => exact False.elim hq
    | cont => exact False.elim hq
/-- len of an instance with its own __len__ -/
def rLenO (C : Addr) (sp : Sp) (E : XK) : List V → Hp → VK → Prop := fun xs H Q => ∃ a, xs = [.ref a] ∧ ∃ dx fs, H a = some (.ins C dx fs) ∧ sp [.ref a] H (fun v H2 => ∃ n : Int, v = .int n ∧ 0 ≤ n ∧ n < 9223372036854775808 ∧ Q (.int n) H2) E
theorem call_lenO (c : Cls X.K C) (hm : Meth X.K C "__len__" f) (F : Fn gd X.prog X.w X.K X.mg X.base k f [] sp) (hr : Rm gd (k + 1) X.A) (hx : Passes (L2.CX X.prog X.w) X E) : CallR X (.builtin "len") (rLenO C sp E) := by
  intro pins s σ H xs us Q I r h
  obtain ⟨a, rfl, dx, fs, ha, q⟩ := h
  obtain ⟨u, rfl, ru⟩ := vals1 r
  obtain rfl : u = Value.ref a := ru
  obtain ⟨mA, O, _, _, _, _⟩ := ins_get I.hok ha
  obtain ⟨od, J, _⟩ := O.look
  refine call_function_entry kind_len plain_len entry_len (args_len1 _) ?_
  unfold Builtin.«len»
  refine wpAny_bind (m := oneArg "len" _) (wpAny_pure ?_)
  refine wpAny_bind (m := callSpecial? (.ref a) (Str.ofString "__len__")) (special_fn I.kIn J hm.at_ (beq_iff_eq.mp hm.fn) ?_)
  refine own_in1 (vs := [V.ref a]) F hr hx I (.cons rfl .nil) q fun v H' u s' I2 rv q2 => ?_
  obtain ⟨n, rfl, h0, h1, q3⟩ := q2
  obtain ⟨tk, rfl⟩ := (show ∃ tk, u = Value.int n tk from rv)
  refine wpAny_bind (wpAny_holding (wpAny_pure ?_))
  refine wpAny_bind (wpAny_letGo ?_)
  show wpAny _ _ (if n < 0 then _ else _) _ _ _
  rw [if_neg (by omega)]
  show wpAny _ _ (if n ≥ 2 ^ 63 then _ else _) _ _ _
  rw [if_neg (by omega)]
  exact wpAny_bind (wpAny_mkInt (wpAny_pure ⟨_, rfl, (show EP X pins σ Q _ _ from ⟨V.int n, H', I2.tok _, ⟨_, rfl⟩, q3⟩)⟩))
end
end FX

/-! Classmethods and class constants as facts; stars; split; a class called by a local name. -/
namespace FX
open PySem PySem.Spec PyProof.Rows L2 FL FR He FH
/-! ### a class read -/
def cgA (K : PySem.W.Frag) (p : Addr) : Addr := match PySem.W.recIn K p "classmethod" with
  | some (.ref g :: _) => g
  | _ => 0
def aC (x m : Str) : PySem.W.Frag → Addr := fun K => cgA K (ma K (ga K x) m)
def fRead (x : Str) : Ft := fun K => PySem.W.readsIn K (ga K x) (.type "type") && decide (PySem.W.specialIn K (.ref (ga K x)) "__getattribute__" = some (some (.builtin "type.__getattribute__")))
def fVal (x f : Str) (v : Dv) : Ft := fun K => match PySem.W.findCls K (.ref (ga K x)) (.type "type") f with
  | some (.val u) => relB (v.v K) u
  | _ => false
def fCMet (x m : Str) : Ft := fun K => (match PySem.W.findCls K (.ref (ga K x)) (.type "type") m with
  | some (.get a b c d) => decide (a = .builtin "classmethod.__get__") && (decide (b = .ref (ma K (ga K x) m)) && (decide (c = .none) && decide (d = .ref (ga K x))))
  | _ => false) && ((match PySem.W.recIn K (ma K (ga K x) m) "classmethod" with
  | some (.ref _ :: _) => true
  | _ => false) && PySem.W.fnIn K (cgA K (ma K (ga K x) m)))
section
variable {K : PySem.W.Frag} {x f m : Str}
theorem read_ok (c : fRead x K = true) : ClX.CRead K (ga K x) (.type "type") := by
  obtain ⟨c1, c2⟩ := ba c
  exact ⟨c1, of_decide_eq_true c2⟩
theorem val_ok {v : Dv} (c : fVal x f v K = true) : ∃ u, ClX.CVal K (ga K x) (.type "type") f (v.v K) u := by
  unfold fVal at c
  cases q : PySem.W.findCls K (.ref (ga K x)) (.type "type") f with
  | none =>
    rw [q] at c
    cases c
  | some o =>
    rw [q] at c
    cases o with
    | val u => exact ⟨u, q, relB_ok c⟩
    | _ => cases c
theorem cmet_ok (c : fCMet x m K = true) : ClX.CMet K (ga K x) (.type "type") m (ma K (ga K x) m) (aC x m K) := by
  obtain ⟨c1, c⟩ := ba c
  obtain ⟨c2, c3⟩ := ba c
  refine ⟨?_, ?_, c3⟩
  · cases q : PySem.W.findCls K (.ref (ga K x)) (.type "type") m with
    | none =>
      rw [q] at c1
      cases c1
    | some o =>
      rw [q] at c1
      cases o with
      | get a b cc d =>
        obtain ⟨e1, e⟩ := ba (show (decide (a = .builtin "classmethod.__get__") && (decide (b = .ref (ma K (ga K x) m)) && (decide (cc = .none) && decide (d = .ref (ga K x))))) = true from c1)
        obtain ⟨e2, e⟩ := ba e
        obtain ⟨e3, e4⟩ := ba e
        rw [of_decide_eq_true e1, of_decide_eq_true e2, of_decide_eq_true e3, of_decide_eq_true e4]
      | _ => cases c1
  · unfold aC cgA
    cases q : PySem.W.recIn K (ma K (ga K x) m) "classmethod" with
    | none =>
      rw [q] at c2
      cases c2
    | some l =>
      rw [q] at c2
      cases l with
      | nil => cases c2
      | cons a r =>
        cases a with
        | ref g => exact ⟨r, rfl⟩
        | _ => cases c2
end
section
variable {X : Cx} {gd : Bool} {k : Nat} {f g C p : Addr} {mc : Value} {sp : Sp} {E : XK} {x m : Str} {e o fe : Expr} {es : List Expr} {te ta tf : TE} {t : TA} {ppos sp_ pos apos : Pos}
theorem run_cmF {pins : List (Addr × Obj)} {σ : L2.St} {H : Hp} {s : Shared} {q : Addr} {Q : VK} {us : List Value} {vs : List V} (F : Fn gd X.prog X.w X.K X.mg X.base k g [] sp) (hr : Rm gd k X.A) (hx : Passes (L2.CX X.prog X.w) X E) (I : Inv X ((q, PySem.W.methodObj (.ref g) (.ref C)) :: pins) σ H s)
    (r : Vals vs us) (h : sp (.ref C :: vs) H Q E) : wpAny (model X.prog X.w) X.A (call (.ref q) us) (EP X pins σ Q) X.xe s := by
  have z : wpAny (model X.prog X.w) X.A (call (.ref q) us) (EP X ((q, PySem.W.methodObj (.ref g) (.ref C)) :: pins) σ Q) X.xe s := by
    refine wpAny_call (PySem.W.method_call (ClX.pin_at I) (codeAny_mono (F X.A X.stack s H (.ref C :: us) [] (.ref C :: vs) [] Q E hr I.env0 (.cons rfl r) .nil rfl (by rw [List.append_nil]; exact h)) fun r' s' hq => ?_))
    cases r' with
    | error er => exact hx _ σ H s er s' I hq
    | ok fl =>
      cases fl with
      | ret u => exact I.after hq
      | next => exact False.elim hq
      | brk => exact False.elim hq
      | cont => exact False.elim hq
  exact thn z fun _ _ y => ClX.unpinE y
/-- C.m(..), m a classmethod of C -/
def cCm (C : Addr) (sp : Sp) (E : XK) (ta : TE) (t : TA) : TE := fun σ H Q => ta σ H fun x H1 => x = .ref C ∧ t σ H1 fun vs H2 => sp (.ref C :: vs) H2 Q E
theorem r_cm {σ : L2.St} {H : Hp} {Q : VK} : cCm C sp E ta t σ H Q = ta σ H fun x H1 => x = .ref C ∧ t σ H1 fun vs H2 => sp (.ref C :: vs) H2 Q E := propext Iff.rfl
theorem pe_cm {pl : Sem Bool} (he : PE X o ta) (r : ClX.CRead X.K C mc) (c : ClX.CMet X.K C mc m p g) (F : Fn gd X.prog X.w X.K X.mg X.base k g [] sp) (hr : Rm gd k X.A) (hx : Passes (L2.CX X.prog X.w) X E) (ha : PA X (e :: es) t)
    (hst : starEach (e :: es) X.env = (false, eval e X.env) :: starEach es X.env := by rfl) (hpl : (backTo pos (starEach es X.env)).any (·.1) = false := by rfl)
    (ht : eval (.Call (.Attribute o m apos) (e :: es) [] pos) X.env = (do
      let ov ← eval o X.env
      standAt apos.atName
      let (f, first) ← holding [ov] (getMethod ov m pl)
      callWith pos f first (backTo pos (starEach (e :: es) X.env)) (backToKw pos (keywordEach [] X.env))) := by rfl) :
    PE X (.Call (.Attribute o m apos) (e :: es) [] pos) (cCm C sp E ta t) := by
  refine ⟨fun pins s σ H Q I h => ?_⟩
  refine PySem.W.methodCall_KW (pl := pl) (thn (he.run pins s σ H _ I h) fun u s1 ⟨x, H1, I1, rx, ex, q⟩ => ?_) ht
  subst ex
  obtain rfl : u = Value.ref C := rx
  refine ClX.getmethcm_ok I1 r c fun s2 I2 => ?_
  refine ClX.callwith_cm I2 (ClX.base_none I1 (Nat.le_refl _)) c.fi (thn (ha.run pos _ s2 σ H1 _ I2 q) fun us s3 ⟨vs, H2, I3, rv, q2⟩ => ⟨⟨ClX.pin_at I3, I3.kIn⟩, ?_⟩) hst hpl
  exact run_cmF F hr hx I3 rv q2
theorem r_cval {K : PySem.W.Frag} {f : Str} {σ : L2.St} {H : Hp} {Q : VK} : ClX.tCVal K ta f σ H Q = ta σ H fun x H1 => ∃ C mc v u, x = .ref C ∧ ClX.CRead K C mc ∧ ClX.CVal K C mc f v u ∧ Q v H1 := propext Iff.rfl
/-- c( *xs), c a local name -/
theorem pe_mkLS (hf : PE X (.Name x ppos) tf) (M : Mk X.K C f) (F : Fn gd X.prog X.w X.K X.mg X.base k f [] sp) (hr : Rm gd (k + 1) X.A) (hx : Passes (L2.CX X.prog X.w) X E) (he : PE X e te)
    (hst : starEach [.Starred e sp_] X.env = [(true, eval e X.env)] := by rfl) :
    PE X (.Call (.Name x ppos) [.Starred e sp_] [] pos) (fun σ H Q => tf σ H fun y0 H0 => y0 = V.ref C ∧ te σ H0 fun y H1 => ∃ a xs, y = V.ref a ∧ (SqT X.K H1 a xs ∨ SqL X.K H1 a xs) ∧ ∀ x dx, H1 x = Option.none → H1 dx = Option.none → dx ≠ x →
      sp (V.ref x :: xs) (upd (upd H1 dx (.own x)) x (.ins C dx [])) (fun v H2 => v = .non ∧ Q (.ref x) H2) E) := by
  refine ⟨fun pins s σ H Q I h => ?_⟩
  refine wpAny_Call_Name_kw (thn (hf.run pins s σ H _ I h) fun fv s0 ⟨v, H0, I0, r0, ev, q0⟩ => ?_)
  subst ev
  obtain rfl : fv = Value.ref C := r0
  refine PySem.W.callWith_S (h₀ := X.base) I0.ok.mod.kin M.kp (thn (he.run pins s0 σ H0 _ I0 q0) fun v s1 ⟨y, H1, I1, ry, a, xs, ey, hxs, q⟩ => ?_) hst
  subst ey
  obtain rfl : v = Value.ref a := ry
  exact StX.star_any I1 hxs fun us s2 I2 rv => ⟨I2.kIn, run_mk0 M F hr hx I2 rv q⟩
/-! ### stars whose sequence is tracked -/
def tStarT (te : TE) (t : TA) : TA := fun σ H Q => te σ H fun x H1 => ∃ p, x = V.ref p ∧ ∃ xs, H1 p = some (.tup xs) ∧ t σ H1 fun ys H2 => Q (xs ++ ys) H2
def tStarL (te : TE) (t : TA) : TA := fun σ H Q => te σ H fun x H1 => ∃ p, x = V.ref p ∧ ∃ xs, H1 p = some (.lst xs) ∧ t σ H1 fun ys H2 => Q (xs ++ ys) H2
theorem r_starT {σ : L2.St} {H : Hp} {Q : List V → Hp → Prop} : tStarT te t σ H Q = te σ H fun x H1 => ∃ p, x = V.ref p ∧ ∃ xs, H1 p = some (.tup xs) ∧ t σ H1 fun ys H2 => Q (xs ++ ys) H2 := propext Iff.rfl
theorem r_starL {σ : L2.St} {H : Hp} {Q : List V → Hp → Prop} : tStarL te t σ H Q = te σ H fun x H1 => ∃ p, x = V.ref p ∧ ∃ xs, H1 p = some (.lst xs) ∧ t σ H1 fun ys H2 => Q (xs ++ ys) H2 := propext Iff.rfl
theorem pa_starT (he : PE X e te) (hr : PA X es t) (hs : starEach (.Starred e ppos :: es) X.env = (true, eval e X.env) :: starEach es X.env := by rfl) : PA X (.Starred e ppos :: es) (tStarT te t) := by
  refine ⟨fun pos pins s σ H Q I h => ?_⟩
  refine PySem.W.items_star (thn (he.run pins s σ H _ I h) fun v s1 ⟨y, H1, I1, ry, a, ey, xs, hx, q⟩ => ?_) hs
  subst ey
  obtain rfl : v = Value.ref a := ry
  refine StX.star_any I1 (.inl (SqT.of hx)) fun us s2 I2 rv => ?_
  exact thn (hr.run pos pins s2 σ H1 _ I2 q) fun ws s3 ⟨vs, H3, I3, r3, q3⟩ => ⟨xs ++ vs, H3, I3, rv.append r3, q3⟩
theorem pa_starL (he : PE X e te) (hr : PA X es t) (hs : starEach (.Starred e ppos :: es) X.env = (true, eval e X.env) :: starEach es X.env := by rfl) : PA X (.Starred e ppos :: es) (tStarL te t) := by
  refine ⟨fun pos pins s σ H Q I h => ?_⟩
  refine PySem.W.items_star (thn (he.run pins s σ H _ I h) fun v s1 ⟨y, H1, I1, ry, a, ey, xs, hx, q⟩ => ?_) hs
  subst ey
  obtain rfl : v = Value.ref a := ry
  refine StX.star_any I1 (.inr (SqL.of hx)) fun us s2 I2 rv => ?_
  exact thn (hr.run pos pins s2 σ H1 _ I2 q) fun ws s3 ⟨vs, H3, I3, r3, q3⟩ => ⟨xs ++ vs, H3, I3, rv.append r3, q3⟩
/-! ### xs * k -/
def rRepN : R2 := fun x y H Q => ∃ l, x = .ref l ∧ ∃ k, y = .int k ∧ ∃ xs, H l = some (.lst xs) ∧ 0 ≤ k ∧ k ≤ 1000 ∧ xs.length ≤ 1000 ∧ ∀ p H2, IsNew H p (.lst (List.replicate k.toNat xs).flatten) H2 → Q (.ref p) H2
theorem op_rep_n : OpR X (binaryOp .Mult) rRepN := OpR.mono op_rep fun x y H Q ⟨l, e1, k, e2, xs, h, k0, k1, l1, q⟩ => ⟨l, k, xs, e1, e2, h, by omega, by omega, fits (Nat.le_trans (Nat.mul_le_mul l1 (show k.toNat ≤ 1000 by omega)) (by decide)), fun p n => q p _ ⟨n, rfl⟩⟩
/-! ### split -/
def rSplitN : V → List V → Hp → VK → Prop := fun x xs H Q => ∃ a b, x = .str a ∧ xs = [.str b] ∧ (b.length == 0) = false ∧ a.length + 2 ≤ sizeLine ∧ ∀ p H2, IsNew H p (.lst ((Txt.split a b).map V.str)) H2 → Q (.ref p) H2
theorem pe_splitN {te to : TE} {e o : Expr} {apos pos : Pos} (ho : PE X o to) (he : PE X e te) (hs : starEach [e] X.env = [(false, eval e X.env)] := by rfl) (hbase : attributeBase o "split" X.env (eval o X.env) = eval o X.env := by rfl) (hline : (apos.endLine == pos.line) = true := by rfl) :
    PE X (.Call (.Attribute o "split" apos) [e] [] pos) (tM1 rSplitN to te) :=
  pe_m1 F.slot_str_split F.type_str_split (fun pins s σ H x xs v us Q I r1 rs ⟨a, b, e1, e2, e3, e4, q⟩ => mt_split pins s σ H x xs v us Q I r1 rs ⟨a, b, e1, e2, e3, e4, fun p n => q p _ ⟨n, rfl⟩⟩) ho he hs hbase hline
end
/-! ### replace, its receiver a name behind a written text -/
section
variable {X : Cx}
theorem pe_opC {op : Operator} {r : R2} {x : Str} {j : Nat} {f : Expr} {tf : TE} {c0 pos : Pos} (ho : OpR X (binaryOp op) r) (hb : PET X f tf) : PE X (.BinOp (.Constant (.str x) j c0) op f pos) (tOp r (tC (.str x)) tf) := by
  refine ⟨fun pins s σ H Q I h => ?_⟩
  refine wpAny_BinOp (Calls.Constant_str ?_)
  have J : Inv X pins σ H { s with toks := s.toks + 1 } := I.tok _
  exact thn (hb pins _ σ H _ (Nat.le_add_left 1 s.toks) J h) fun u s2 ⟨y, H2, I2, r2, q2⟩ => ho pins s2 σ H2 (.str x) y _ u Q I2 ⟨_, rfl⟩ r2 q2
def rMulS : R2 := fun x y H Q => ∃ i, x = .str i ∧ ∃ j, y = .int j ∧ 2 ≤ j ∧ j ≤ 1000 ∧ i.length ≤ 1000 ∧ Q (.str (Txt.mul i j)) H
theorem op_mul_str : OpR X (binaryOp .Mult) rMulS := by
  intro pins s σ H x y v u Q I rx ry h
  obtain ⟨i, rfl, j, rfl, j0, j1, hi, q⟩ := h
  obtain ⟨t, rfl⟩ := rx
  obtain ⟨t', rfl⟩ := ry
  refine SB.mul ⟨?_, fun _ _ => ?_, fun _ _ => ?_⟩ fun t' k => ⟨.str (Txt.mul i j), H, I.tok _, ⟨_, rfl⟩, q⟩
  · rw [Bool.or_eq_false_iff]
    exact ⟨decide_eq_false (by omega), decide_eq_false (by omega)⟩
  · have z : (1000 : Int) ≤ (2 ^ 63 - 1) / j := Int.le_ediv_of_mul_le (by omega) (by omega)
    omega
  · have z : i.length * j.toNat ≤ 1000 * 1000 := Nat.mul_le_mul hi (by omega)
    unfold PySem.Builtin.Str.tooLong
    refine decide_eq_false ?_
    have := sizeLine_eq
    omega
theorem r_replC {to : TE} {y z : Str} {σ : L2.St} {H : Hp} {Q : VK} : CwR.tReplC to y z σ H Q = to σ H fun v H1 => ∃ x, v = .str x ∧ x.length + (x.length + 1) * z.length ≤ 16777216 ∧ Q (.str (Txt.replace x y z)) H1 := propext Iff.rfl
end
/-! ### positional parameters given by name, in their order -/
section
variable {gd : Bool} {P : Program} {w : World} {K : PySem.W.Frag} {mg : Str → Option Value} {base : Heap} {k n : Nat} {f : Addr} {x qual : Str} {params : Arguments} {body : List Stmt} {scope : Scope} {dvs : List V} {kws : List (Str × V)} {fd : FuncData} {N ps ks : List Str} {sp : Sp}
theorem kbP (F : FunD K x qual params body scope [] kws f fd)
    (h : ∀ (kV doc pm : Value) (an : Option Addr) (cdv ct : Value) (us ws : List Value), us.length = n → ws.length = ks.length → bindArgs (PySem.W.fnOf x qual params body scope .none kV doc pm an cdv ct) ⟨us, ks.zip ws⟩ = pure (ps.zip (us ++ ws))) :
    KBn K fd ps n ks (fun us ws => us ++ ws) (fun vs zs => vs ++ zs) := by
  obtain ⟨oc, od, dV, kV, doc, pm, an, cdv, ct, osl, rfl, lk, hcd, hD, hK⟩ := F.ex
  rcases hD with ⟨_, rfl⟩ | ⟨e, _⟩
  · exact ⟨fun s us ws _ l1 l2 => BindsTo.of_looks fun M => PySem.W.Looks.of_pure (h kV doc pm an cdv ct us ws l1 l2), fun r rz => r.append rz⟩
  · exact absurd rfl e
theorem fn_keyP (F : FunD K x qual params body scope dvs kws f fd) (S : FnScope N ps scope) (len : ∀ vs H Q E, sp vs H Q E → vs.length = ps.length) (hn : n + ks.length = ps.length) (hb : KBn K fd ps n ks (fun us ws => us ++ ws) (fun vs zs => vs ++ zs))
    (hbody : ∀ (cdv : Value) (A : Around) (outer : List Env) (s : Shared) (H : Hp) (vs : List V) (Q : VK) (E : XK), Rm gd k (A.deeper (envOfC qual scope s.heap.objs.size f cdv)) → sp vs H Q E →
      ∃ t, PSs (cxOf (L2.CX P w) P w K mg base N qual scope f cdv A outer s H E) body t ∧ t { nx := fun _ H' => Q .non H', rt := Q } (start N vs) H) : Fn gd P w K mg base (k + 1) f ks sp :=
  (fn_key F S len hb hbody).imp fun vs H Q E h => by
    have l := len _ _ _ _ h
    exact ⟨vs.take n, vs.drop n, (List.take_append_drop n vs).symm, by rw [List.length_take]; omega, by rw [List.length_drop]; omega, by rw [List.take_append_drop]; exact h⟩
end
end FX

/-! Lambdas with one parameter that has a written int as its default. -/
namespace FX
open PySem PySem.Spec PyProof.Rows L2 FL FR
theorem r_methK {C : Addr} {m : Str} {n : Nat} {sp : Sp} {E : XK} {ta : TE} {t tk : TA} {σ : L2.St} {H : Hp} {Q : VK} : cMethK C m n sp E ta t tk σ H Q = (ta σ H fun x H1 => ∃ a dx fs, x = .ref a ∧ H1 a = some (.ins C dx fs) ∧ fs.lookup m = none ∧ t σ H1 fun vs H2 => tk σ H2 fun zs H3 => zs.length = n ∧ sp (x :: (vs ++ zs)) H3 Q E) := propext Iff.rfl
end FX
namespace FLd
open PySem PySem.Spec PyProof.Rows L2 FL FR FH FX He LamX
abbrev fnD (q : Str) (params : Arguments) (body : Expr) (scope : Scope) (cl : List (Str × Addr)) (pm cdv ct dv : Value) : FuncData := { PySem.W.kla_fn "<lambda>" q params body scope cl pm cdv ct with defaults := dv }
abbrev obD (q : Str) (params : Arguments) (body : Expr) (scope : Scope) (cl : List (Str × Addr)) (pm cdv ct dv : Value) : Obj := { cls := .type "function", data := .func (fnD q params body scope cl pm cdv ct dv) }
abbrev tupO (u : Value) : Obj := { cls := .type "tuple", data := .seq [u].toArray }
section
variable {M : Model} {A : Around} {E : Value → Shared → Prop} {s : Shared} {q : Str} {params : Arguments} {body : Expr} {scope : Scope} {env : Env} {c P : Addr} {ps : Array Value} {pos : Pos} {ln : Nat} {mg : Str → Option Value} {cl : List (Str × Addr)} {Q : Value → Shared → Prop} {dv : Value}
theorem tail_miss (k1 : closureFor scope env = pure cl) (k2 : env.globals = mainGlobals) (k3 : s.heap.Ns mainGlobals mg) (k4 : env.code = .ref c) (C : PySem.W.CodeHd s.heap c P) (k5 : s.heap.get? P = some { cls := .none, data := .fields ps }) (k6 : TriplesOk ps.toList)
    (k7 : codeAmong pos ps.toList = none) (k8 : mainGlobals ≠ P) (k9 : s.heap.BuiltinsAt mg P)
    (h : ∀ c' ctv h' tk, Heap.ExtBut P s.heap h' → s.heap.objs.size ≤ c' → c' < h'.objs.size → h'.CodeRec (.ref c') q → h'.get? P = some { cls := .none, data := .fields (ps ++ #[rawInt pos.line, rawInt pos.col, .ref c']) } →
      Q (.ref h'.objs.size) { s with heap := h'.push (obD q params body scope cl ((mg "__name__").getD .none) (.ref c') ctv dv), toks := tk }) : wpAny M A (makeTail "<lambda>" q params (.expr body) scope env dv .none none pos ln) Q E s := by
  obtain ⟨bm, ob, b1, b2, _, b3, b4, b5, b6, b7⟩ := k9
  unfold makeTail
  rw [k1, k2]
  refine wpAny_bind (wpAny_pure ?_)
  rcases cl with _ | ⟨z, r⟩
  · simp only [List.isEmpty_nil, if_true]
    refine wpAny_bind (wpAny_pure (wpAny_bind (wpAny_functionCodeX k4 (C.code k5 k6) (C.tab k5) k7 fun c' h' tk x g l _ rc tb _ => ?_)))
    have n1 := k3.extBut x k8
    exact wpAny_bind (wpAny_builtinsFor n1 b1 b2 (x _ _ b3 b4) b5 b6 b7 (wpAny_bind (wpAny_nsGet n1 (wpAny_bind (wpAny_pure (wpAny_newObj_type (h c' .none h' tk x g l rc tb.2) (by size_fits)))))))
  · simp only [List.isEmpty_cons, Bool.false_eq_true, if_false]
    refine wpAny_bind (wpAny_newTextTuple ?_)
    have up : ∀ {o : Obj} (b : Addr) (u : Obj), s.heap.get? b = some u → (s.heap.push o).get? b = some u := fun b u e => Heap.get?_push_of_some _ e
    have C2 : ∀ o : Obj, PySem.W.CodeHd (s.heap.push o) c P := fun o => C.keeps up
    refine wpAny_bind (wpAny_functionCodeX k4 ((C2 _).code (up _ _ k5) k6) ((C2 _).tab (up _ _ k5)) k7 fun c' h' tk x g l _ rc tb _ => ?_)
    have n1 := (k3.push _).extBut x k8
    have x2 : Heap.ExtBut P s.heap h' := fun b o n e => x b o n (up _ _ e)
    have g2 : s.heap.objs.size ≤ c' := Nat.le_trans (by rw [Heap.size_push]; omega) g
    exact wpAny_bind (wpAny_builtinsFor n1 b1 b2 (x2 _ _ b3 b4) b5 b6 b7 (wpAny_bind (wpAny_nsGet n1 (wpAny_bind (wpAny_pure (wpAny_newObj_type (h c' _ h' tk x2 g2 l rc tb.2) (by size_fits)))))))
theorem tail_hit {cv : Value} (k1 : closureFor scope env = pure cl) (k2 : env.globals = mainGlobals) (k3 : s.heap.Ns mainGlobals mg) (k4 : env.code = .ref c) (C : PySem.W.CodeHd s.heap c P) (k5 : s.heap.get? P = some { cls := .none, data := .fields ps }) (k6 : TriplesOk ps.toList)
    (k7 : codeAmong pos ps.toList = some cv) (k9 : s.heap.BuiltinsAt mg P)
    (h : ∀ (ctv : Value) (h' : Heap) (tk : Tok), (∀ b o, s.heap.get? b = some o → h'.get? b = some o) → s.heap.objs.size ≤ h'.objs.size →
      Q (.ref h'.objs.size) { s with heap := h'.push (obD q params body scope cl ((mg "__name__").getD .none) cv ctv dv), toks := tk }) : wpAny M A (makeTail "<lambda>" q params (.expr body) scope env dv .none none pos ln) Q E s := by
  obtain ⟨bm, ob, b1, b2, _, b3, b4, b5, b6, b7⟩ := k9
  unfold makeTail
  rw [k1, k2]
  refine wpAny_bind (wpAny_pure ?_)
  rcases cl with _ | ⟨z, r⟩
  · simp only [List.isEmpty_nil, if_true]
    refine wpAny_bind (wpAny_pure (wpAny_bind (wpAny_functionCode_hit k4 (C.code k5 k6) k7 ?_)))
    exact wpAny_bind (wpAny_builtinsFor k3 b1 b2 b4 b5 b6 b7 (wpAny_bind (wpAny_nsGet k3 (wpAny_bind (wpAny_pure (wpAny_newObj_type (h .none s.heap s.toks (fun _ _ e => e) (Nat.le_refl _)) (by size_fits)))))))
  · simp only [List.isEmpty_cons, Bool.false_eq_true, if_false]
    refine wpAny_bind (wpAny_newTextTuple ?_)
    have up : ∀ {o : Obj} (b : Addr) (u : Obj), s.heap.get? b = some u → (s.heap.push o).get? b = some u := fun b u e => Heap.get?_push_of_some _ e
    have C2 : ∀ o : Obj, PySem.W.CodeHd (s.heap.push o) c P := fun o => C.keeps up
    refine wpAny_bind (wpAny_functionCode_hit k4 ((C2 _).code (up _ _ k5) k6) k7 ?_)
    have sz : ∀ o : Obj, s.heap.objs.size ≤ (s.heap.push o).objs.size := fun o => by rw [Heap.size_push]; omega
    exact wpAny_bind (wpAny_builtinsFor (k3.push _) b1 b2 (up _ _ b4) b5 b6 b7 (wpAny_bind (wpAny_nsGet (k3.push _) (wpAny_bind (wpAny_pure (wpAny_newObj_type (h _ _ s.toks up (sz _)) (by size_fits)))))))
end
section
variable {X : Cx} {pins : List (Addr × Obj)} {σ : L2.St} {H : Hp} {s : Shared}
/-- the lambda is made, its default before it -/
theorem make_d {T : List (Addr × Str)} {c P : Addr} {params : Arguments} {body : Expr} {scope : Scope} {pos cp : Pos} {i : Int} {cj : Nat} {Q : Value → Shared → Prop} (I : Inv X pins σ H s) (TB : TabB X.base X.mg c P) (hcode : X.env.code = .ref c)
    (hm : (P, X.env.qual ++ "<lambda>") ∈ T) (hu : ∀ p ∈ T, p.1 = P → p.2 = X.env.qual ++ "<lambda>") (hT : Tabs T H) (hdef : defaultsOf params X.env = ([eval (.Constant (.int i) cj cp) X.env], [])) (hfree : ∀ y ∈ scope.names, y.2 = .free → ∃ c, X.env.cells.lookup y.1 = some c)
    (h : ∀ (f c' D : Addr) (u pm ctv : Value) (H1 : Hp) (s' : Shared), Inv X pins σ H1 s' → ExtN H H1 → Tabs T H1 →
      s'.heap.get? f = some (obD (X.env.qual ++ "<lambda>") params body scope (cloFrom X.env.cells scope.names []) pm (.ref c') ctv (.ref D)) → H1 f = none → f ∉ frs X.stack → s'.heap.get? D = some (tupO u) → H1 D = none → D ∉ frs X.stack → H1 c' = some (CodeO c' (X.env.qual ++ "<lambda>")) → Q (.ref f) s') :
    wpAny (model X.prog X.w) X.A (eval (.Lambda params body scope pos) X.env) Q X.xe s := by
  have step : ∀ (u : Value) (s1 : Shared), Inv X pins σ H s1 → wpAny (model X.prog X.w) X.A (makeFunction "<lambda>" (X.env.qual ++ "<lambda>") params (.expr body) scope X.env [u] [] [] pos pos.line) Q X.xe s1 := by
    intro u s1 I1
    rw [makeFunction_eq]
    simp only [List.zip_nil_right, List.filterMap_nil, List.isEmpty_nil, List.isEmpty_cons, Bool.false_eq_true, if_true, if_false, pure_bind]
    refine wpAny_bind (wpAny_newTextTuple ?_)
    obtain ⟨D, eD⟩ : ∃ D, D = s1.heap.objs.size := ⟨_, rfl⟩
    have J : Inv X pins σ H { s1 with heap := s1.heap.push (tupO u) } := I1.kept (t' := s1.toks) fun b o e => Heap.get?_push_of_some _ e
    have dat : (s1.heap.push (tupO u)).get? D = some (tupO u) := by rw [eD]; exact Heap.get?_push_size s1.heap rfl
    have dn : H D = none := I1.hok.fresh (by rw [eD]; exact Nat.le_refl _)
    have nofr : ∀ {s0 : Shared} (_ : Inv X pins σ H s0) (f : Addr), s0.heap.objs.size ≤ f → f ∉ frs X.stack := fun {s0} I0 f hf z => by
      rcases List.mem_cons.mp (I0.stkSub _ z) with e | e
      · have h1 := I0.lt
        rw [← e] at h1
        exact Nat.lt_irrefl _ (Nat.lt_of_lt_of_le h1 hf)
      · exact I0.nofs hf e
    have dfr : D ∉ frs X.stack := nofr I1 D (by rw [eD]; exact Nat.le_refl _)
    show wpAny _ _ (makeTail "<lambda>" (X.env.qual ++ "<lambda>") params (.expr body) scope X.env (.ref s1.heap.objs.size) .none none pos pos.line) _ _ { s1 with heap := s1.heap.push (tupO u) }
    rw [← eD]
    obtain ⟨s2, es⟩ : ∃ s2 : Shared, s2 = { s1 with heap := s1.heap.push (tupO u) } := ⟨_, rfl⟩
    have dat2 : s2.heap.get? D = some (tupO u) := by rw [es]; exact dat
    rw [← es] at J ⊢
    obtain ⟨ps, hP, ht, ha⟩ := hT _ hm
    have bP : s2.heap.BuiltinsAt X.mg P := TB.bm.keeps J.bk
    have hP' : s2.heap.get? P = some { cls := .none, data := .fields ps } := J.hok P _ hP
    cases hc : codeAmong pos ps.toList with
    | none =>
      refine tail_miss (mg := X.mg) (c := c) (P := P) (ps := ps) (closure_ok hfree) J.ok.glob (J.mod.glob.keeps J.bk) hcode (TB.code.keeps J.bk) hP' ht hc TB.gP bP fun c' ctv h' tk hx hge hlt hrec htb => ?_
      obtain ⟨c2, oc, vs, t, e2, hoc, hd, hv⟩ := hrec
      cases e2
      have hsz : s2.heap.objs.size ≤ h'.objs.size := Nat.le_trans hge (Nat.le_of_lt hlt)
      have nC : H c' = none := J.hok.fresh hge
      have dP : D ≠ P := fun e => by rw [e, hP'] at dat2; cases dat2
      have J1 := inv_table (t' := tk) (more := #[rawInt pos.line, rawInt pos.col, .ref c']) (h' := h'.push (obD (X.env.qual ++ "<lambda>") params body scope (cloFrom X.env.cells scope.names []) ((X.mg "__name__").getD .none) (.ref c') ctv (.ref D))) J hP
        (fun b o hb e => Heap.get?_push_of_some _ (hx b o hb e)) (Heap.get?_push_of_some _ htb) hge ⟨oc, vs, t, Heap.get?_push_of_some _ hoc, hd, hv⟩
      have hE : ExtN H (upd (upd H P (.tbl (ps ++ #[rawInt pos.line, rawInt pos.col, .ref c']))) c' (CodeO c' (X.env.qual ++ "<lambda>"))) := fun b o e n => by
        rw [upd_ne (ne_of_none e nC), upd_ne (fun z => n ps (Option.some.inj (e.symm.trans (by rw [z]; exact hP))))]
        exact e
      have eL : (ps ++ #[rawInt pos.line, rawInt pos.col, .ref c']).toList = ps.toList ++ [rawInt pos.line, rawInt pos.col, .ref c'] := by simp
      have dc : D ≠ c' := fun e => by
        have z := Heap.lt_size dat2
        rw [e] at z
        exact Nat.lt_irrefl _ (Nat.lt_of_lt_of_le z hge)
      refine h h'.objs.size c' D u ((X.mg "__name__").getD .none) ctv _ _ J1 hE (fun p hp => ?_) (Heap.get?_push_size _ rfl) ?_ (nofr J _ hsz) (Heap.get?_push_of_some _ (hx _ _ dP dat2)) (by rw [upd_ne dc, upd_ne dP]; exact dn) dfr upd_same
      · by_cases hb : p.1 = P
        · rw [hu p hp hb, hb]
          refine ⟨_, by rw [upd_ne (ne_of_none hP nC), upd_same], by rw [eL]; exact PySem.TriplesOk_snoc _ _ _ _ ht, fun p' cv hcv => ?_⟩
          rw [eL] at hcv
          rcases among_app _ ht hcv with z | z
          · obtain ⟨c0, e1, e2⟩ := ha p' cv z
            exact ⟨c0, e1, hE _ _ e2 codeO_ne⟩
          · exact ⟨c', z, upd_same⟩
        · obtain ⟨ps', a1, a2, a3⟩ := hT p hp
          refine ⟨ps', by rw [upd_ne (ne_of_none a1 nC), upd_ne hb]; exact a1, a2, fun p' cv hcv => ?_⟩
          obtain ⟨c0, e1, e2⟩ := a3 p' cv hcv
          exact ⟨c0, e1, hE _ _ e2 codeO_ne⟩
      · rw [upd_ne (Nat.ne_of_gt hlt), upd_ne (Nat.ne_of_gt (Nat.lt_of_lt_of_le (Heap.lt_size hP') hsz))]
        exact J.hok.fresh hsz
    | some cv =>
      obtain ⟨c', e, hco⟩ := ha pos cv hc
      subst e
      refine tail_hit (mg := X.mg) (c := c) (P := P) (ps := ps) (closure_ok hfree) J.ok.glob (J.mod.glob.keeps J.bk) hcode (TB.code.keeps J.bk) hP' ht hc bP fun ctv h' tk hx hsz => ?_
      have J1 : Inv X pins σ H { s2 with heap := h'.push (obD (X.env.qual ++ "<lambda>") params body scope (cloFrom X.env.cells scope.names []) ((X.mg "__name__").getD .none) (.ref c') ctv (.ref D)), toks := tk } := J.kept fun b o e => Heap.get?_push_of_some _ (hx b o e)
      exact h h'.objs.size c' D u ((X.mg "__name__").getD .none) ctv H _ J1 (ExtN.refl H) hT (Heap.get?_push_size _ rfl) (J.hok.fresh hsz) (nofr J _ hsz) (Heap.get?_push_of_some _ (hx _ _ dat2)) dn dfr hco
  rw [arm_eval_Lambda, hdef]
  show wpAny _ _ (do let dv ← evalAll [eval (.Constant (.int i) cj cp) X.env]; let kdv ← holding dv (evalAllOpt []); makeFunction "<lambda>" (X.env.qual ++ "<lambda>") params (.expr body) scope X.env dv kdv [] pos pos.line) _ _ s
  refine wpAny_bind (wpAny_bind (thn ((pe_int (X := X) (i := i) (j := cj) (pos := cp)).run pins s σ H (fun _ H1 => H1 = H) I rfl) fun u s1 ⟨v, H1, I1, rv, eH⟩ => ?_))
  rw [eH] at I1
  exact wpAny_bind (wpAny_holding (wpAny_pure (wpAny_pure (wpAny_bind (wpAny_holding (wpAny_pure (step u s1 I1)))))))
/-! ### its names: captured ones, globals, and a local that the def has not -/
structure LamD (N : List Str) (sc scope : Scope) : Prop where
  kind : scope.kind = .function
  co : scope.isCoroutine = false
  gen : scope.isGenerator = false
  own : ∀ y ∈ scope.names, y.2 ≠ .cell ∧ (y.2 = .local → y.1 ∉ N)
  free : ∀ y ∈ scope.names, y.2 = .free → sc.names.lookup y.1 = some .cell ∨ sc.names.lookup y.1 = some .free
def lamDB (N : List Str) (sc scope : Scope) : Bool :=
  decide (scope.kind = .function) && (!scope.isCoroutine && (!scope.isGenerator && scope.names.all fun y => !decide (y.2 = .cell) && ((!decide (y.2 = .local) || !N.contains y.1) && (!decide (y.2 = .free) || (decide (sc.names.lookup y.1 = some .cell) || decide (sc.names.lookup y.1 = some .free))))))
theorem lamD_by {N : List Str} {sc scope : Scope} (h : lamDB N sc scope = true) : LamD N sc scope := by
  obtain ⟨h1, h⟩ := ba h
  obtain ⟨h2, h⟩ := ba h
  obtain ⟨h3, h4⟩ := ba h
  have each : ∀ y ∈ scope.names, y.2 ≠ .cell ∧ (y.2 = .local → y.1 ∉ N) ∧ (y.2 = .free → sc.names.lookup y.1 = some .cell ∨ sc.names.lookup y.1 = some .free) := fun y hy => by
    obtain ⟨g1, g⟩ := ba (List.all_eq_true.mp h4 y hy)
    obtain ⟨g2, g3⟩ := ba g
    simp only [Bool.or_eq_true, Bool.not_eq_true', decide_eq_true_eq, decide_eq_false_iff_not] at g1 g2 g3
    refine ⟨g1, fun e => ?_, fun e => ?_⟩
    · rcases g2 with g2 | g2
      · exact absurd e g2
      · simpa using g2
    · rcases g3 with g3 | g3
      · exact absurd e g3
      · exact g3
  exact ⟨of_decide_eq_true h1, by simpa using h2, by simpa using h3, fun y hy => ⟨(each y hy).1, (each y hy).2.1⟩, fun y hy => (each y hy).2.2⟩
theorem LamD.has {scope : Scope} (L : LamD X.N X.env.scope scope) (ok : X.Ok) : ∀ y ∈ scope.names, y.2 = .free → ∃ c, X.env.cells.lookup y.1 = some c := fun y hy e => ok.has _ (L.free y hy e)
theorem start_d {A : Around} {outer : List Env} {E : XK} {scope : Scope} {f c' : Addr} {h₁ : Heap} {tk : Nat} {HZ : Hp} {s1 : Shared} {mL : Str → Option Value} (I : Inv X pins σ H s) (L : LamD X.N X.env.scope scope) (e0 : Env0 X.prog X.w X.K X.mg X.base A outer s1 HZ) (hd : A.handled = none)
    (un : Un (frs X.stack) [] H HZ s.heap s1.heap) (hns : h₁.Ns s1.heap.objs.size mL) (kp : ∀ b o, s1.heap.get? b = some o → h₁.get? b = some o) : Inv (lamCx X A outer s1 HZ E scope f c') [] σ HZ { s1 with heap := h₁, toks := tk } := by
  have hfree := L.has I.ok
  have cm : ∀ {y c}, (cloFrom X.env.cells scope.names []).lookup y = some c → X.env.cells.lookup y = some c := fun {y c} e => by
    rcases cloFrom_mem (PySem.mem_of_lookup e) with hm | ⟨h1, h2⟩
    · cases hm
    · obtain ⟨c1, hc⟩ := hfree _ h1 rfl
      have hc : X.env.cells.lookup y = some c1 := hc
      rw [hc, show c = c1 by rw [h2, hc] <;> rfl]
  have look : ∀ {y}, scope.names.lookup y = some .free → ∃ c, (cloFrom X.env.cells scope.names []).lookup y = some c := fun {y} hl => mem_lookup (cloFrom_has (cells := X.env.cells) (acc := []) (show (y, NameKind.free) ∈ scope.names from PySem.mem_of_lookup hl))
  have cellK : ∀ {c : Addr} {v : Option Value}, H c = none → s.heap.IsCell c v → h₁.IsCell c v := fun {c v} n ⟨o, ho, hd⟩ => let ⟨sl, z⟩ := un.any ho n (by simp); ⟨_, kp _ _ z, hd⟩
  have noA : ∀ b : Addr, b ∉ (lamCx X A outer s1 HZ E scope f c').ex := fun b z => absurd (show b ∈ ([] : List Addr) from z) (by simp)
  refine ⟨⟨e0.mod, L.kind, rfl, rfl, Nat.le_refl _, fun y z c e1 e2 => I.ok.inj y z c (cm e1) (cm e2), fun y hy => ?_, fun y c z _ => ?_, fun _ => hd, Around.frames_deeper e0.frames, .inr ⟨rfl, rfl⟩, fun b z => absurd z (noA b), e0.bs, e0.bsz, fun b _ _ => noA b,
      fun b z => absurd z (noA b), e0.funs, e0.frf⟩,
    rfl, e0.bare, Un.kept kp, ⟨_, hns, fun i y v e1 e2 e3 => ?_⟩, fun y c e => ?_, e0.hok.fresh (Nat.le_refl _), fun y c e => ?_, fun q hq => absurd (show q ∈ ([] : List (Addr × Obj)) ++ [] from hq) (by simp), e0.hok.kept kp, I.len⟩
  · rcases (show scope.names.lookup y = some .cell ∨ scope.names.lookup y = some .free from hy) with hy | hy
    · exact absurd rfl (L.own _ (PySem.mem_of_lookup hy)).1
    · exact look hy
  · cases (show false = true from z)
  · rcases (show Vis scope y from e3) with k | k | k
    · exact absurd (List.mem_of_getElem? (show X.N[i]? = some y from e1)) ((L.own _ (PySem.mem_of_lookup k)).2 rfl)
    · exact absurd rfl (L.own _ (PySem.mem_of_lookup k)).1
    · obtain ⟨m, hn, hl⟩ := I.loc
      obtain ⟨w', r, z⟩ := hl i y v e1 e2 ((L.free _ (PySem.mem_of_lookup k) rfl).elim (fun k => .inr (.inl k)) (fun k => .inr (.inr k)))
      obtain ⟨c2, h2⟩ := look k
      refine ⟨w', r, .inr ⟨.inr k, c2, h2, ?_⟩⟩
      have c1 := cm h2
      rcases z with ⟨k', _⟩ | ⟨_, c3, e', z⟩
      · have k' : X.env.scope.names.lookup y = some .local := k'
        rcases L.free _ (PySem.mem_of_lookup k) rfl with k2 | k2 <;> rw [show X.env.scope.names.lookup y = _ from k2] at k' <;> cases k'
      · rw [c1] at e'
        cases e'
        exact cellK (I.freeC y _ c1) z
  · obtain ⟨w', z⟩ := I.cell y c (cm e)
    exact ⟨w', cellK (I.freeC y c (cm e)) z⟩
  · obtain ⟨v, o, ho, hd⟩ := I.cell y c (cm e)
    exact un.free c o ho (I.freeC y c (cm e)) (by simp)
/-- what the call without arguments binds -/
def BindD (params : Arguments) (body : Expr) (scope : Scope) (x : Str) : Prop := ∀ (q : Str) (cl : List (Str × Addr)) (pm cv ctv u : Value) (D : Addr), ∃ k, bindArgs (fnD q params body scope cl pm cv ctv (.ref D)) ⟨[], []⟩ = seqItems? (.ref D) >>= k ∧ k (some [u].toArray) = pure [(x, u)]
theorem act_d {HZ : Hp} {s1 : Shared} {CXg : CXT} {Eg : XK} {Ng : List Str} {qg : Str} {sg : Scope} {g f c' D : Addr} {cdg pm ctv u : Value} {params : Arguments} {body : Expr} {scope : Scope} {k i : Nat} {a x : Str} {pn : List (Addr × Obj)} {xe : Value → Shared → Prop} {W : WX} {E : XK} {tb : TE} {p1 p2 : Pos}
    (I : Inv X pins σ H s) (L : LamD X.N X.env.scope scope) (hf : s.heap.get? f = some (obD (X.env.qual ++ "<lambda>") params body scope (cloFrom X.env.cells scope.names []) pm (.ref c') ctv (.ref D))) (hfn : H f = none) (hfr : f ∉ frs X.stack) (hD : s.heap.get? D = some (tupO u)) (hDn : H D = none) (hDr : D ∉ frs X.stack)
    (hbind : BindD params body scope x) (hloc : scope.names.lookup x = some .local)
    (tk : Takes ((cxOf CXg X.prog X.w X.K X.mg X.base Ng qg sg g cdg X.A X.stack s H Eg).tr pn xe) W) (hW : ∀ cls d σ' H', E cls d H' → W cls d σ' H') (hr : Room (k + 1) (X.A.deeper (envOfC qg sg s.heap.objs.size g cdg)))
    (hbody : ∀ (A : Around) (outer : List Env) (s : Shared) (H : Hp), Room k (A.deeper (lamEnv X scope s.heap.objs.size f c')) → PE (lamCx X A outer s H E scope f c') body tb)
    (hN : Ng[i]? = some a) (hv : Vis sg a) (hd : (a == ("__debug__" : Str)) = false := by decide) (hcd : (a == ("__classdict__" : Str)) = false := by decide) :
    PE ((cxOf CXg X.prog X.w X.K X.mg X.base Ng qg sg g cdg X.A X.stack s H Eg).tr pn xe) (.Call (.Name a p1) [] [] p2) (fun σZ HZ Q => σZ[i]? = some (some (.ref f)) ∧ HZ c' = some (CodeO c' (X.env.qual ++ "<lambda>")) ∧ tb σ HZ Q) := by
  refine ⟨fun pinsZ sZ σZ HZ Q IZ h => ?_⟩
  obtain ⟨hs, hc, ht⟩ := h
  refine wpAny_Call_Name_kw (thn ((pe_var (pos := p1) (i := i) hN hv hd hcd).run pinsZ sZ σZ HZ (fun v H1 => v = .ref f ∧ H1 = HZ) IZ ⟨.ref f, hs, rfl, rfl⟩) fun fu s1 ⟨v, H1, I1, r1, q1⟩ => ?_)
  obtain ⟨ev, eH⟩ := q1
  subst ev
  rw [eH] at I1
  obtain rfl : fu = Value.ref f := r1
  have of1 := I1.base.keep f _ hf hfn hfr (fun z => nomatch (show f ∈ ([] : List Addr) from z))
  have od1 := I1.base.keep D _ hD hDn hDr (fun z => nomatch (show D ∈ ([] : List Addr) from z))
  refine PySem.W.callWith_F0 ⟨_, _, _, _, of1⟩ ?_
  obtain ⟨⟨oc, vs, t, hoc, hdc, hvc⟩, _, _⟩ := I1.hok c' _ hc
  have rc : codeAny (model X.prog X.w) (X.A.deeper (envOfC qg sg s.heap.objs.size g cdg)) (.call (.ref f) ⟨[], []⟩) (CR (L2.CX X.prog X.w) (envOfC qg sg s.heap.objs.size g cdg :: X.stack) X.prog X.w HZ s1 Q E) s1 := by
    refine PySem.W.kla_callFunE hr.depth of1 rfl L.co L.gen rfl ⟨c', oc, vs, t, rfl, hoc, hdc, hvc⟩ ?_
    obtain ⟨kk, b1, b2⟩ := hbind (X.env.qual ++ "<lambda>") (cloFrom X.env.cells scope.names []) pm (.ref c') ctv u D
    rw [b1]
    refine wpAny_bind (wpAny_seqItems od1 rfl ?_)
    rw [b2]
    refine wpAny_pure (wpAny_newFunctionEnv (fun y hy => (L.own y hy).1) (fun y hy => by rw [List.mem_singleton.mp hy]; exact hloc) (fun h₁ hns hsb => ⟨I1.nolimit.fresh _ hsb, ?_⟩) L.kind)
    show codeAny _ _ (.expr body (lamEnv X scope s1.heap.objs.size f c')) _ _
    have kp : ∀ b o, s1.heap.get? b = some o → h₁.get? b = some o := fun b o e => hsb.extBut b o (Nat.ne_of_lt (Heap.lt_size e)) (Heap.get?_push_of_some _ e)
    have J := start_d (E := E) (f := f) (c' := c') (tk := s1.toks + ([(x, u)] : List (Str × Value)).length) I L I1.env0 hr.hd I1.base hns kp
    refine PySem.W.kla_codeExpr (wpAny_mono ((hbody _ _ s1 HZ (hr.deeper _)).run [] _ _ HZ Q J ht) (fun v s' hq => ?_) fun e s' hq => hq)
    obtain ⟨w', H', J', rv, q⟩ := hq
    exact ⟨w', H', J'.os, J'.bare, J'.base, J'.hok, rv, q⟩
  have hx : Passes (L2.CX X.prog X.w) ((cxOf CXg X.prog X.w X.K X.mg X.base Ng qg sg g cdg X.A X.stack s H Eg).tr pn xe) E := passes_call tk hW
  refine wpAny_call (codeAny_mono rc fun r s' hq => ?_)
  cases r with
  | error e => exact hx pinsZ σZ HZ s1 e s' I1 hq
  | ok fl =>
    cases fl with
    | ret u => exact I1.after hq
    | next => exact False.elim hq
    | brk => exact False.elim hq
    | cont => exact False.elim hq
end
/-- x(lambda y=i: body) -/
theorem pe_lamcallD {X : Cx} {T : List (Addr × Str)} {TT : (XK → Hp → VK → Prop) → Hp → VK → Prop} {x a y : Str} {g c P : Addr} {k : Nat} {pg : Arguments} {bg : List Stmt} {sg : Scope} {dV kV doc pm cdv ct oc : Value} {an od : Option Addr} {osl : Array (Option Value)} {Ng : List Str}
    {params : Arguments} {body : Expr} {scope : Scope} {t : XK → TE} {p lpos pos cp : Pos} {i : Int} {cj : Nat} (hg : Gl X x) (hm : X.mg x = some (.ref g)) (hk : PySem.W.keepIn X.K (.ref g) = true)
    (lk : X.K.lookup g = some ⟨oc, od, .func (PySem.W.fnOf x x pg bg sg dV kV doc pm an cdv ct), osl⟩) (hcg : PySem.W.codeIn X.K cdv x = true) (hb : L2.Binds X.K (PySem.W.fnOf x x pg bg sg dV kV doc pm an cdv ct) [a] []) (Sg : FnScope Ng [a] sg) (hNg : Ng[0]? = some a) (hva : Vis sg a)
    (hG : GivesTo X Ng x sg g cdv bg a (X.env.qual ++ "<lambda>") TT)
    (TB : TabB X.base X.mg c P) (hcode : X.env.code = .ref c) (hmT : (P, X.env.qual ++ "<lambda>") ∈ T) (hu : ∀ p ∈ T, p.1 = P → p.2 = X.env.qual ++ "<lambda>") (hr : Room (k + 2) X.A) (L : LamD X.N X.env.scope scope) (hdef : defaultsOf params X.env = ([eval (.Constant (.int i) cj cp) X.env], []))
    (hbind : BindD params body scope y) (hloc : scope.names.lookup y = some .local)
    (hbody : ∀ (A : Around) (outer : List Env) (s : Shared) (H : Hp) (E : XK) (f c' : Addr), Room k (A.deeper (lamEnv X scope s.heap.objs.size f c')) → PE (lamCx X A outer s H E scope f c') body (t E))
    (hdb : (x == ("__debug__" : Str)) = false := by decide) (hd : (a == ("__debug__" : Str)) = false := by decide) (hcd : (a == ("__classdict__" : Str)) = false := by decide) :
    PE X (.Call (.Name x p) [.Lambda params body scope lpos] [] pos) (tLam T TT t) := by
  refine ⟨fun pins s σ H Q I h => ?_⟩
  obtain ⟨hT, h⟩ := h
  refine wpAny_Call_Name_kw (ld_glob I hg hm ?_ hdb)
  refine PySem.W.callWith_K (h₀ := X.base) I.ok.mod.kin hk ?_ (by rfl) (by rfl)
  show wpAny _ _ (spliced ((false, eval (.Lambda params body scope lpos) X.env) :: backTo pos (starEach [] X.env))) _ _ s
  refine Calls.spliced_cons (make_d I TB hcode hmT hu hT hdef (L.has I.ok) fun f c' D u pm' ctv H1 s' I1 eN T1 hf hfn hfr hD hDn hDr hco => Calls.spliced_nil ⟨I1.kIn, ?_⟩)
  have rc : codeAny (model X.prog X.w) X.A (.call (.ref g) ⟨[.ref f], []⟩) (CR C8.CX0 X.stack X.prog X.w H1 s' Q C8.E0) s' := by
    refine run_ofS (N := Ng) (ps := [a]) (us := [.ref f]) (vs := [.ref f]) lk hcg Sg hr I1.env0 (hb s' [.ref f] I1.kIn rfl) (.cons rfl .nil) rfl fun hr' => ?_
    obtain ⟨t', ht', hq'⟩ := hG f c' s' H1 Q (fun E H' Q' => t E σ H' Q') (fun W pn xe E p1 p2 tk hW => act_d (HZ := H) (s1 := s) (i := 0) I1 L hf hfn hfr hD hDn hDr hbind hloc tk hW hr' (fun A outer s H hr2 => hbody A outer s H E f c' hr2) hNg hva hd hcd) hco (h H1 eN T1)
    exact ⟨t', ht'.nox, hq'⟩
  refine wpAny_call (codeAny_mono rc fun r s2 hq => ?_)
  cases r with
  | error e => exact (show False from hq).elim
  | ok fl =>
    cases fl with
    | ret u => exact I1.after hq
    | next => exact False.elim hq
    | brk => exact False.elim hq
    | cont => exact False.elim hq
end FLd

/-! == and != of two instances of one class with its own __eq__; a classmethod called with keywords. -/
namespace FX
open PySem PySem.Spec PyProof.Rows L2 FL FR He FH PySem.W PySem.Calls
section
variable {prog : Program} {w : World} {A : Around} {E : Value → Shared → Prop} {s : Shared} {K : Frag} {x y C f : Addr} {ox oy : Obj} {od od' : Option Obj}
theorem rc_same {op : CmpOp} {Q : Value → Shared → Prop} (hu : A.units < cLine) (I : InstAt s.heap x ox C od) (J : InstAt s.heap y oy C od')
    (one : wpAny (model prog w) A (tryCompare (.ref x) (cmpInfo op).2.1 (.ref y)) (fun r s' => ∃ v, r = some v ∧ Q v s') E s) : wpAny (model prog w) A (richCompare op (.ref x) (.ref y)) Q E s := by
  unfold richCompare
  simp only [oneThing_ref]
  refine wpAny_holding (wpAny_bind (wpAny_cRoomFor hu (wpAny_bind (I.type.here (wpAny_bind (J.type.here ?_))))))
  rw [show (Value.ref C != Value.ref C) = false from by simp]
  simp only [Bool.false_eq_true, if_false]
  refine wpAny_bind (wpAny_pure ?_)
  simp only [Bool.false_eq_true, if_false]
  refine wpAny_bind (wpAny_mono one (fun r s' z => ?_) fun _ _ e => e)
  obtain ⟨v, rfl, hq⟩ := z
  exact wpAny_pure hq
theorem try_eq {b : Value} {Q : Value → Shared → Prop} (X : K.In s.heap) (I : InstAt s.heap x ox C od) (hs : findIn K (.ref C) "__eq__" = some (some (.ref f))) (hf : isFn K (.ref f) = true)
    (h : wpAny (model prog w) A (call (.ref f) [.ref x, b]) (fun v s' => ∃ k, v = .bool k ∧ Q (.bool k) s') E s) : wpAny (model prog w) A (tryCompare (.ref x) "__eq__" b) (fun r s' => ∃ v, r = some v ∧ Q v s') E s := by
  unfold tryCompare
  refine wpAny_bind (ifBound_K X I hs hf (wpAny_mono h (fun v s' hv => ?_) fun _ _ e => e))
  obtain ⟨k, rfl, hq⟩ := hv
  exact wpAny_pure ⟨_, rfl, hq⟩
/-- what a class with its own __eq__ and object's __ne__ has -/
structure NeC (K : Frag) (C : Addr) : Prop where
  ne : findIn K (.ref C) "__ne__" = some (some (.builtin "object.__ne__"))
  ob : subIn K (.ref C) (.type "object") = some true
theorem obj_ne {b : Value} {Q : Fin → Shared → Prop} (X : K.In s.heap) (I : InstAt s.heap x ox C od) (hs : findIn K (.ref C) "__eq__" = some (some (.ref f))) (hf : isFn K (.ref f) = true) (hu : A.units < cLine)
    (h : wpAny (model prog w) A (call (.ref f) [.ref x, b]) (fun v s' => ∃ k, v = .bool k ∧ Q (.done (.ret (.bool (!k)))) s') E s) : wpAny (model prog w) A (Builtin.«object.__ne__» ⟨[.ref x, b], []⟩) Q E s := by
  obtain ⟨hp, g, d, t, os⟩ := s
  unfold Builtin.«object.__ne__»
  repeat (first
    | with_reducible refine wpAny_cRoomFor hu ?_
    | (refine wpAny_bind (m := callSpecialIfBound? (.ref x) (Str.ofString "__eq__") [b]) (ifBound_K X I hs hf (wpAny_mono h (fun r s' hr => by
          obtain ⟨k, rfl, hq⟩ := hr
          repeat (first | exact hq | exact wpAny_pure hq | exact wpAny_truthy_bool hq | (refine wpAny_bind (m := truthy (.bool _)) (wpAny_truthy_bool ?_)) | wp_step)) fun _ _ e => e)))
    | wp_step)
theorem try_ne {b : Value} {Q : Value → Shared → Prop} (c : NeC K C) (X : K.In s.heap) (I : InstAt s.heap x ox C od) (hs : findIn K (.ref C) "__eq__" = some (some (.ref f))) (hf : isFn K (.ref f) = true) (hu : A.units + 1 < cLine)
    (h : wpAny (model prog w) A.in1 (call (.ref f) [.ref x, b]) (fun v s' => ∃ k, v = .bool k ∧ Q (.bool (!k)) s') E s) : wpAny (model prog w) A (tryCompare (.ref x) "__ne__" b) (fun r s' => ∃ v, r = some v ∧ Q v s') E s := by
  have T0 := I.type (M := model prog w)
  have isB : Looks (model prog w) s.heap (isInstance (.ref x) (.type "object")) true := T0.andThen (looks_subIn X c.ob)
  have sl := PySem.F.cmp_object.ne
  unfold tryCompare
  have body : wpAny (model prog w) A (call (.builtin "object.__ne__") [.ref x, b]) (fun v s' => ∃ k, v = .bool k ∧ Q (.bool k) s') E s := by
    refine wpAny_call (codeAny_call_builtin sl.plain PySem.F.cmpEntry_ne (@check_slot (model prog w) _ _ s "object.__ne__" "object" "__ne__" (.ref x) [b] [] _ PySem.F.cmpKind_ne PySem.F.cmpSplit_ne isB (PySem.F.cmpArgs_ne _ _) ?_))
    refine obj_ne X I hs hf hu (wpAny_mono h (fun v s' hv => ?_) fun _ _ e => e)
    obtain ⟨k, rfl, hq⟩ := hv
    first
      | exact ⟨k, rfl, _, rfl, hq⟩
      | exact ⟨k, rfl, ⟨_, rfl, _, rfl, hq⟩⟩
  refine wpAny_bind ?_
  simp only [callSpecialIfBound?, bindSpecialIfBound?]
  refine wpAny_holding (wpAny_bind (wpAny_bind (wpAny_bind (T0.here ((looks_findIn X c.ne).here ?_)))))
  simp only [sl.bind]
  refine wpAny_bind (wpAny_askSetting (wpAny_ite ?_))
  split
  · refine wpAny_bind (wpAny_pure (wpAny_pure (wpAny_bind (wpAny_mono body (fun v s' hv => ?_) fun _ _ h' => h'))))
    obtain ⟨k, rfl, hq⟩ := hv
    exact wpAny_pure (wpAny_pure ⟨_, rfl, hq⟩)
  · refine wpAny_tryCatch (wpAny_bind (wpAny_pure (wpAny_pure (wpAny_bind (wpAny_mono body (fun v s' hv => ?_) fun _ _ h' => h')))))
    obtain ⟨k, rfl, hq⟩ := hv
    exact wpAny_pure (wpAny_pure ⟨_, rfl, hq⟩)
end
def fNe (x : Str) : Ft := fun K => eqO (findIn K (.ref (ga K x)) "__ne__") (some (some (.builtin "object.__ne__"))) && decide (subIn K (.ref (ga K x)) (.type "object") = some true)
theorem ne_ok {K : Frag} {x : Str} (c : fNe x K = true) : NeC K (ga K x) := let ⟨c1, c2⟩ := ba c; ⟨eqO_ok c1, of_decide_eq_true c2⟩
section
variable {gd : Bool} {X : Cx} {k : Nat} {f g C p : Addr} {mc : Value} {sp : Sp} {E : XK} {m : Str} {o : Expr} {ta : TE} {tk : TA} {kws : List Keyword} {ks : List Str} {pos apos : Pos}
theorem own_at {pins : List (Addr × Obj)} {σ : L2.St} {H : Hp} {s : Shared} {us : List Value} {vs : List V} {Q : VK} {R : Value → Shared → Prop} (F : Fn gd X.prog X.w X.K X.mg X.base k f [] sp) (hr : Rm gd k X.A) (hx : Passes (L2.CX X.prog X.w) X E)
    (I : Inv X pins σ H s) (r : Vals vs us) (h : sp vs H Q E) (hR : ∀ v H' u s', Inv X pins σ H' s' → RelV v u → Q v H' → R u s') : wpAny (model X.prog X.w) X.A (call (.ref f) us) R X.xe s :=
  wpAny_mono (run_f0 F hr hx I r h) (fun u s' ⟨v, H', I', rv, q⟩ => hR v H' u s' I' rv q) fun _ _ z => z
/-- x == y, x != y of two instances of C -/
def rCmpO (neg : Bool) (C : Addr) (sp : Sp) (E : XK) : R2 := fun x y H Q => ∃ a, x = .ref a ∧ ∃ b, y = .ref b ∧ ∃ dx fs, H a = some (.ins C dx fs) ∧ ∃ dy gs, H b = some (.ins C dy gs) ∧ sp [.ref a, .ref b] H (fun v H2 => ∃ k, v = .bl k ∧ Q (.bl (neg.xor k)) H2) E
theorem op_eqO (hm : Meth X.K C "__eq__" f) (F : Fn gd X.prog X.w X.K X.mg X.base k f [] sp) (hr : Rm gd k X.A) (hu : X.A.units < cLine) (hx : Passes (L2.CX X.prog X.w) X E) : OpR X (compareOp .Eq) (rCmpO false C sp E) := by
  intro pins s σ H x y v u Q I rx ry h
  obtain ⟨a, rfl, b, rfl, dx, fs, ha, dy, gs, hb, q⟩ := h
  obtain rfl : v = Value.ref a := rx
  obtain rfl : u = Value.ref b := ry
  obtain ⟨mA, O, _, _, _, _⟩ := ins_get I.hok ha
  obtain ⟨od, J, _⟩ := O.look
  obtain ⟨mB, O', _, _, _, _⟩ := ins_get I.hok hb
  obtain ⟨od', J', _⟩ := O'.look
  unfold compareOp
  refine rc_same hu J J' (try_eq I.kIn J hm.at_ hm.fn (own_at (vs := [V.ref a, V.ref b]) F hr hx I (.cons rfl (.cons rfl .nil)) q fun w H' z s' I' rw' q' => ?_))
  obtain ⟨k, rfl, q2⟩ := q'
  obtain rfl : z = Value.bool k := rw'
  exact ⟨k, rfl, .bl k, H', I', rfl, by rw [Bool.false_xor] at q2; exact q2⟩
theorem op_neO (c : NeC X.K C) (hm : Meth X.K C "__eq__" f) (F : Fn gd X.prog X.w X.K X.mg X.base k f [] sp) (hr : Rm gd (k + 1) X.A) (hu : X.A.units + 1 < cLine) (hx : Passes (L2.CX X.prog X.w) X E) : OpR X (compareOp .NotEq) (rCmpO true C sp E) := by
  intro pins s σ H x y v u Q I rx ry h
  obtain ⟨a, rfl, b, rfl, dx, fs, ha, dy, gs, hb, q⟩ := h
  obtain rfl : v = Value.ref a := rx
  obtain rfl : u = Value.ref b := ry
  obtain ⟨mA, O, _, _, _, _⟩ := ins_get I.hok ha
  obtain ⟨od, J, _⟩ := O.look
  obtain ⟨mB, O', _, _, _, _⟩ := ins_get I.hok hb
  obtain ⟨od', J', _⟩ := O'.look
  unfold compareOp
  refine rc_same (Nat.lt_of_succ_lt hu) J J' (try_ne c I.kIn J hm.at_ hm.fn hu (own_in1 (vs := [V.ref a, V.ref b]) F hr hx I (.cons rfl (.cons rfl .nil)) q fun w H' z s' I' rw' q' => ?_))
  obtain ⟨k, rfl, q2⟩ := q'
  obtain rfl : z = Value.bool k := rw'
  exact ⟨k, rfl, .bl (!k), H', I', rfl, by rw [Bool.true_xor] at q2; exact q2⟩
/-- C.m(k = e, ..), m a classmethod -/
def cCmK (C : Addr) (n : Nat) (sp : Sp) (E : XK) (ta : TE) (tk : TA) : TE := fun σ H Q => ta σ H fun x H1 => x = .ref C ∧ tk σ H1 fun zs H2 => zs.length = n ∧ sp (.ref C :: zs) H2 Q E
theorem r_cmK {n : Nat} {σ : L2.St} {H : Hp} {Q : VK} : cCmK C n sp E ta tk σ H Q = ta σ H fun x H1 => x = .ref C ∧ tk σ H1 fun zs H2 => zs.length = n ∧ sp (.ref C :: zs) H2 Q E := propext Iff.rfl
theorem run_cmK {pins : List (Addr × Obj)} {σ : L2.St} {H : Hp} {s : Shared} {q : Addr} {Q : VK} {ws : List Value} {zs : List V} (F : Fn gd X.prog X.w X.K X.mg X.base k g ks sp) (hr : Rm gd k X.A) (hx : Passes (L2.CX X.prog X.w) X E) (I : Inv X ((q, PySem.W.methodObj (.ref g) (.ref C)) :: pins) σ H s)
    (r : Vals zs ws) (l : zs.length = ks.length) (h : sp (.ref C :: zs) H Q E) : wpAny (model X.prog X.w) X.A (call (.ref q) [] (ks.zip ws)) (EP X pins σ Q) X.xe s := by
  have z : wpAny (model X.prog X.w) X.A (call (.ref q) [] (ks.zip ws)) (EP X ((q, PySem.W.methodObj (.ref g) (.ref C)) :: pins) σ Q) X.xe s := by
    refine wpAny_call (PySem.W.method_call (ClX.pin_at I) (codeAny_mono (F X.A X.stack s H [.ref C] ws [.ref C] zs Q E hr I.env0 (.cons rfl .nil) r l h) fun r' s' hq => ?_))
    cases r' with
    | error er => exact hx _ σ H s er s' I hq
    | ok fl =>
      cases fl with
      | ret u => exact I.after hq
      | next => exact False.elim hq
      | brk => exact False.elim hq
      | cont => exact False.elim hq
  exact thn z fun _ _ y => ClX.unpinE y
theorem pe_cmK0 {pl : Sem Bool} (he : PE X o ta) (r : ClX.CRead X.K C mc) (c : ClX.CMet X.K C mc m p g) (F : Fn gd X.prog X.w X.K X.mg X.base k g ks sp) (hr : Rm gd k X.A) (hx : Passes (L2.CX X.prog X.w) X E) (hkw : PK X kws tk)
    (hall : (backToKw pos (keywordEach kws X.env)).all (·.1.isSome) = true := by rfl) (hks : (backToKw pos (keywordEach kws X.env)).filterMap (·.1) = ks := by rfl)
    (hpl : ((backTo pos (starEach [] X.env)).any (·.1) || (backToKw pos (keywordEach kws X.env)).any (·.1.isNone)) = false := by rfl)
    (ht : eval (.Call (.Attribute o m apos) [] kws pos) X.env = (do
      let ov ← eval o X.env
      standAt apos.atName
      let (f, first) ← holding [ov] (getMethod ov m pl)
      callWith pos f first (backTo pos (starEach [] X.env)) (backToKw pos (keywordEach kws X.env))) := by rfl) :
    PE X (.Call (.Attribute o m apos) [] kws pos) (cCmK C ks.length sp E ta tk) := by
  refine ⟨fun pins s σ H Q I h => ?_⟩
  refine PySem.W.methodCall_KW (pl := pl) (thn (he.run pins s σ H _ I h) fun u s1 ⟨x, H1, I1, rx, ex, q⟩ => ?_) ht
  subst ex
  obtain rfl : u = Value.ref C := rx
  refine ClX.getmethcm_ok I1 r c fun s2 I2 => ?_
  refine PySem.W.callWith_of hpl (PySem.W.keeps_M (self := .ref C) c.fi) (evalArgs_kw2_nil hall ?_)
  refine thn (hkw.run pos _ s2 σ H1 _ I2 q) fun ws s3 ⟨zs, H2, I3, rz, l, q2⟩ => ⟨⟨ClX.pin_at I3, I3.kIn⟩, ?_⟩
  rw [hks]
  exact run_cmK F hr hx I3 rz l q2
end
/-! ### tuple * k -/
def rRepTN : R2 := fun x y H Q => ∃ l, x = .ref l ∧ ∃ k, y = .int k ∧ ∃ xs, H l = some (.tup xs) ∧ xs ≠ [] ∧ 2 ≤ k ∧ k ≤ 1000 ∧ xs.length ≤ 1000 ∧ ∀ p H2, IsNew H p (.tup (List.replicate k.toNat xs).flatten) H2 → Q (.ref p) H2
theorem op_repTn {X : Cx} : OpR X (binaryOp .Mult) rRepTN := OpR.mono op_repT fun x y H Q ⟨l, e1, k, e2, xs, h, h0, h1, h2, h3, q⟩ => ⟨l, k, xs, e1, e2, SqT.of h, h0, h1, h2, h3, fun p n => q p _ ⟨n, rfl⟩⟩
end FX

/-! own in, own [], own == and != with any right side. -/
namespace FX
open PySem PySem.Spec PyProof.Rows L2 FL FR He FH PySem.W PySem.Calls
section
variable {gd : Bool} {X : Cx} {k : Nat} {f C : Addr} {sp : Sp} {E : XK} {pos : Pos} {e i : Expr} {te ti : TE}
/-- y in x, x an instance of C -/
def rInO (neg : Bool) (C : Addr) (sp : Sp) (E : XK) : R2 := fun y x H Q => ∃ a, x = .ref a ∧ ∃ dx fs, H a = some (.ins C dx fs) ∧ sp [.ref a, y] H (fun v H2 => ∃ k, v = .bl k ∧ Q (.bl (neg.xor k)) H2) E
theorem op_inO (hm : Meth X.K C "__contains__" f) (F : Fn gd X.prog X.w X.K X.mg X.base k f [] sp) (hr : Rm gd k X.A) (hx : Passes (L2.CX X.prog X.w) X E) : OpR X (compareOp .In) (rInO false C sp E) := by
  intro pins s σ H y x u v Q I ry rx h
  obtain ⟨a, rfl, dx, fs, ha, q⟩ := h
  obtain rfl : v = Value.ref a := rx
  obtain ⟨mA, O, _, _, _, _⟩ := ins_get I.hok ha
  obtain ⟨od, J, _⟩ := O.look
  obtain ⟨m, Fr⟩ := I.fr
  refine in_K Fr I.ok.mod.kin J hm.at_ hm.fn (own_at (vs := [V.ref a, y]) F hr hx I (.cons rfl (.cons ry .nil)) q fun w H' z s' I' rw' q' => ?_)
  obtain ⟨k, rfl, q2⟩ := q'
  obtain rfl : z = Value.bool k := rw'
  exact wpAny_truthy_bool ⟨.bl k, H', I', rfl, by rw [Bool.false_xor] at q2; exact q2⟩
theorem op_notInO (hm : Meth X.K C "__contains__" f) (F : Fn gd X.prog X.w X.K X.mg X.base k f [] sp) (hr : Rm gd k X.A) (hx : Passes (L2.CX X.prog X.w) X E) : OpR X (compareOp .NotIn) (rInO true C sp E) := by
  intro pins s σ H y x u v Q I ry rx h
  obtain ⟨a, rfl, dx, fs, ha, q⟩ := h
  obtain rfl : v = Value.ref a := rx
  obtain ⟨mA, O, _, _, _, _⟩ := ins_get I.hok ha
  obtain ⟨od, J, _⟩ := O.look
  obtain ⟨m, Fr⟩ := I.fr
  refine notIn_K Fr I.ok.mod.kin J hm.at_ hm.fn (own_at (vs := [V.ref a, y]) F hr hx I (.cons rfl (.cons ry .nil)) q fun w H' z s' I' rw' q' => ?_)
  obtain ⟨k, rfl, q2⟩ := q'
  obtain rfl : z = Value.bool k := rw'
  exact wpAny_truthy_bool ⟨.bl (!k), H', I', rfl, by rw [Bool.true_xor] at q2; exact q2⟩
/-- x[i] of an instance of C -/
def tIxO (C : Addr) (sp : Sp) (E : XK) (te ti : TE) : TE := fun σ H Q => te σ H fun x H1 => ti σ H1 fun y H2 => ∃ a, x = .ref a ∧ ∃ dx fs, H2 a = some (.ins C dx fs) ∧ sp [.ref a, y] H2 Q E
theorem r_ixO {σ : L2.St} {H : Hp} {Q : VK} : tIxO C sp E te ti σ H Q = te σ H fun x H1 => ti σ H1 fun y H2 => ∃ a, x = .ref a ∧ ∃ dx fs, H2 a = some (.ins C dx fs) ∧ sp [.ref a, y] H2 Q E := propext Iff.rfl
theorem pe_ixO (hm : Meth X.K C "__getitem__" f) (hfn : fnIn X.K f = true) (F : Fn gd X.prog X.w X.K X.mg X.base k f [] sp) (hr : Rm gd (k + 1) X.A) (hx : Passes (L2.CX X.prog X.w) X E) (he : PE X e te) (hi : PE X i ti)
    (hsl : ∀ x y, subscripted i true x y = runValue (.builtin "lifetime.subscript" ⟨[x, y], []⟩) := by intro _ _; rfl) : PE X (.Subscript e i pos) (tIxO C sp E te ti) := by
  refine ⟨fun pins s σ H Q I h => ?_⟩
  refine Subscript_ (thn (he.run pins s σ H _ I h) fun u s1 ⟨x, H1, I1, rx, h1⟩ => ?_)
  refine thn (hi.run pins s1 σ H1 _ I1 h1) fun v s2 ⟨y, H2, I2, ry, h2⟩ => ?_
  obtain ⟨a, rfl, dx, fs, ha, q⟩ := h2
  obtain rfl : u = Value.ref a := rx
  obtain ⟨mA, O, _, _, _, _⟩ := ins_get I2.hok ha
  obtain ⟨od, J, _⟩ := O.look
  obtain ⟨m, Fr⟩ := I2.fr
  exact sub_K Fr I2.ok.mod.kin J hm.at_ hfn hm.fn (own_in1 (vs := [V.ref a, y]) F hr hx I2 (.cons rfl (.cons ry .nil)) q fun w H' z s' I' rw' q' => ⟨w, H', I', rw', q'⟩) (hsl _ _)
def fFnM (x m : Str) : Ft := fun K => fnIn K (ma K (ga K x) m)
theorem fnM_ok {K : Frag} {x m : Str} (c : fFnM x m K = true) : fnIn K (ma K (ga K x) m) = true := c
end
section
variable {prog : Program} {w : World} {A : Around} {E : Value → Shared → Prop} {s : Shared} {K : Frag} {x C f : Addr} {ox : Obj} {od : Option Obj} {b tb : Value}
theorem rc_any {op : CmpOp} {Q : Value → Shared → Prop} (hu : A.units < cLine) (X : K.In s.heap) (I : InstAt s.heap x ox C od) (hb : Looks (model prog w) s.heap (typeOf b) tb) (hn : notFirst K C tb = true)
    (one : wpAny (model prog w) A (tryCompare (.ref x) (cmpInfo op).2.1 b) (fun r s' => ∃ v, r = some v ∧ Q v s') E s) : wpAny (model prog w) A (richCompare op (.ref x) b) Q E s := by
  have fin : ∀ {G : Option Value → Sem Value}, (∀ v s', Q v s' → wpAny (model prog w) A (G (some v)) Q E s') → wpAny (model prog w) A (tryCompare (.ref x) (cmpInfo op).2.1 b >>= G) Q E s := fun h => wpAny_bind (wpAny_mono one (fun r s' z => by
    obtain ⟨v, rfl, hq⟩ := z
    exact h v s' hq) fun _ _ e => e)
  unfold richCompare
  simp only [oneThing_ref]
  refine wpAny_holding (wpAny_bind (wpAny_cRoomFor hu (wpAny_bind (I.type.here (wpAny_bind (hb.here ?_))))))
  split
  · rename_i q
    have e : subIn K tb (.ref C) = some false := by
      rcases Bool.or_eq_true_iff.mp hn with e | e
      · rw [beq_iff_eq.mp e] at q; simp at q
      · exact beq_iff_eq.mp e
    refine wpAny_bind ((looks_subIn X e).here ?_)
    simp only [Bool.false_eq_true, if_false]
    exact fin fun v s' hq => wpAny_pure hq
  · refine wpAny_bind (wpAny_pure ?_)
    simp only [Bool.false_eq_true, if_false]
    exact fin fun v s' hq => wpAny_pure hq
end
section
variable {gd : Bool} {X : Cx} {k : Nat} {f C : Addr} {sp : Sp} {E : XK}
/-- x == y, x != y, x an instance of C, y of any kind -/
def rCmpA (K : Frag) (neg : Bool) (C : Addr) (sp : Sp) (E : XK) : R2 := fun x y H Q => ∃ a, x = .ref a ∧ ∃ dx fs, H a = some (.ins C dx fs) ∧ ∃ t, TyX K H y t ∧ notFirst K C t = true ∧ sp [.ref a, y] H (fun v H2 => ∃ k, v = .bl k ∧ Q (.bl (neg.xor k)) H2) E
theorem op_eqA {K' : Frag} (hK : X.K = K') (hm : Meth X.K C "__eq__" f) (F : Fn gd X.prog X.w X.K X.mg X.base k f [] sp) (hr : Rm gd k X.A) (hu : X.A.units < cLine) (hx : Passes (L2.CX X.prog X.w) X E) : OpR X (compareOp .Eq) (rCmpA K' false C sp E) := by
  subst hK
  intro pins s σ H x y v u Q I rx ry h
  obtain ⟨a, rfl, dx, fs, ha, t, ty, nf, q⟩ := h
  obtain rfl : v = Value.ref a := rx
  obtain ⟨mA, O, _, _, _, _⟩ := ins_get I.hok ha
  obtain ⟨od, J, _⟩ := O.look
  obtain ⟨P, kx, hP, _⟩ := kit_of I ry ty
  unfold compareOp
  refine rc_any hu I.kIn J (kx.ty _ _ I.kIn hP) nf (try_eq I.kIn J hm.at_ hm.fn (own_at (vs := [V.ref a, y]) F hr hx I (.cons rfl (.cons ry .nil)) q fun w H' z s' I' rw' q' => ?_))
  obtain ⟨k, rfl, q2⟩ := q'
  obtain rfl : z = Value.bool k := rw'
  exact ⟨k, rfl, .bl k, H', I', rfl, by rw [Bool.false_xor] at q2; exact q2⟩
theorem op_neA {K' : Frag} (hK : X.K = K') (c : NeC X.K C) (hm : Meth X.K C "__eq__" f) (F : Fn gd X.prog X.w X.K X.mg X.base k f [] sp) (hr : Rm gd (k + 1) X.A) (hu : X.A.units + 1 < cLine) (hx : Passes (L2.CX X.prog X.w) X E) : OpR X (compareOp .NotEq) (rCmpA K' true C sp E) := by
  subst hK
  intro pins s σ H x y v u Q I rx ry h
  obtain ⟨a, rfl, dx, fs, ha, t, ty, nf, q⟩ := h
  obtain rfl : v = Value.ref a := rx
  obtain ⟨mA, O, _, _, _, _⟩ := ins_get I.hok ha
  obtain ⟨od, J, _⟩ := O.look
  obtain ⟨P, kx, hP, _⟩ := kit_of I ry ty
  unfold compareOp
  refine rc_any (Nat.lt_of_succ_lt hu) I.kIn J (kx.ty _ _ I.kIn hP) nf (try_ne c I.kIn J hm.at_ hm.fn hu (own_in1 (vs := [V.ref a, y]) F hr hx I (.cons rfl (.cons ry .nil)) q fun w H' z s' I' rw' q' => ?_))
  obtain ⟨k, rfl, q2⟩ := q'
  obtain rfl : z = Value.bool k := rw'
  exact ⟨k, rfl, .bl (!k), H', I', rfl, by rw [Bool.true_xor] at q2; exact q2⟩
end
/-! ### x op y with an own method, y of a built-in type -/
section
variable {prog : Program} {w : World} {A : Around} {E : Value → Shared → Prop} {s : Shared} {K : Frag} {x C f : Addr} {ox : Obj} {od : Option Obj} {b : Value} {T : String} {op : Operator} {fo ro rc : Option Value}
/-- what the classes must have -/
structure BinC (K : Frag) (C : Addr) (op : Operator) (f : Addr) (T : String) (fo ro rc : Option Value) : Prop where
  first : selfFirst K C = true
  at_ : findIn K (.ref C) (PySem.dunder op.info.2) = some (some (.ref f))
  fn : isFn K (.ref f) = true
  back : findIn K (.ref C) (dunderR op.info.2) = some rc
  py : rc = none ∨ ∃ g : Addr, rc = some (.ref g)
  tf : findIn K (.type T) (PySem.dunder op.info.2) = some fo
  tr : findIn K (.type T) (dunderR op.info.2) = some ro
  sub : subIn K (.type T) (.ref C) = some false
theorem bin_any {Q : Value → Shared → Prop} (c : BinC K C op f T fo ro rc) (X : K.In s.heap) (I : InstAt s.heap x ox C od) (hb : Looks (model prog w) s.heap (typeOf b) (.type T))
    (h : wpAny (model prog w) A (call (.ref f) [.ref x, b]) (W.CmpBack Q) E s) : wpAny (model prog w) A (binaryOp op (.ref x) b) Q E s := by
  obtain ⟨c1, c2, c3, c4, c5, c6, c7, c8⟩ := c
  obtain ⟨cd, rest, hcd, hm⟩ := ksp_first c1
  rcases hi : op.info with ⟨sym, nm⟩
  rw [hi] at c2 c4 c6 c7
  dsimp only at c2 c4 c6 c7
  have one := ksp_try X I c2 c3 h
  obtain ⟨hh, g, d, tt, os⟩ := s
  have P1 : Looks (model prog w) hh (typeOf (.ref x)) (.ref C) := I.type
  have P2 : Looks (model prog w) hh (typeOf b) (.type T) := hb
  have P3 : Looks (model prog w) hh (fillsNumberSlot (.ref C) nm) true := fills_K X hcd hm c2
  have P4 : Looks (model prog w) hh (fillsNumberSlot (.type T) nm) ((fo.isSome && !isSeqSlot fo) || (ro.isSome && !isSeqSlot ro)) := ksp_fillsT X c6 c7
  have P5 : Looks (model prog w) hh (isSubtype (.type T) (.ref C)) false := looks_subIn X c8
  have P6 : Looks (model prog w) hh (numberSlotInPython (.ref C) nm) true := ksp_inPy X c2 c4 c5
  have P7 : Looks (model prog w) hh (numberSlotInPython (.type T) nm) false := Looks.of_pure rfl
  have P8 : Looks (model prog w) hh (typeLookup (.type T) (dunderR nm)) ro := looks_findIn X c7
  generalize ((fo.isSome && !isSeqSlot fo) || (ro.isSome && !isSeqSlot ro)) = rt at P4
  have dif : (Value.ref C == Value.type T) = false := Bool.eq_false_iff.mpr fun q => by cases beq_iff_eq.mp q
  simp only [binaryOp, hi]
  refine wpAny_holding (wpAny_bind ?_)
  unfold binaryOp1
  refine wpAny_bind (P1.at (wpAny_bind (P2.at (wpAny_bind (P3.at ?_)))))
  simp only [dif, Bool.false_eq_true, if_false]
  cases rt <;>
  · ksp_lk
    refine wpAny_mono one (fun r s' z => ?_) fun _ _ e => e
    obtain ⟨v, rfl, hq⟩ := z
    ksp_lk
    exact hq
end
section
variable {gd : Bool} {X : Cx} {k : Nat} {f C : Addr} {sp : Sp} {E : XK} {op : Operator}
/-- x op y by x's own method, y of a built-in type; it gives an object -/
def rBinO (K : Frag) (op : Operator) (C f : Addr) (sp : Sp) (E : XK) : R2 := fun x y H Q => ∃ a, x = .ref a ∧ ∃ dx fs, H a = some (.ins C dx fs) ∧ ∃ T fo ro rc, TyX K H y (.type T) ∧ BinC K C op f T fo ro rc ∧ sp [.ref a, y] H (fun v H2 => ∃ p, v = .ref p ∧ Q (.ref p) H2) E
theorem op_binO {K' : Frag} (hK : X.K = K') (F : Fn gd X.prog X.w X.K X.mg X.base k f [] sp) (hr : Rm gd k X.A) (hx : Passes (L2.CX X.prog X.w) X E) : OpR X (binaryOp op) (rBinO K' op C f sp E) := by
  subst hK
  intro pins s σ H x y v u Q I rx ry h
  obtain ⟨a, rfl, dx, fs, ha, T, fo, ro, rc, ty, c, q⟩ := h
  obtain rfl : v = Value.ref a := rx
  obtain ⟨mA, O, _, _, _, _⟩ := ins_get I.hok ha
  obtain ⟨od, J, _⟩ := O.look
  obtain ⟨P, kx, hP, _⟩ := kit_of I ry ty
  refine bin_any c I.kIn J (kx.ty _ _ I.kIn hP) (own_at (vs := [V.ref a, y]) F hr hx I (.cons rfl (.cons ry .nil)) q fun w H' z s' I' rw' q' => ?_)
  obtain ⟨p, rfl, q2⟩ := q'
  obtain rfl : z = Value.ref p := rw'
  exact ⟨.ref p, H', I', rfl, q2⟩
end
def fBin (x : Str) (op : Operator) (T : String) : Ft := fun K => selfFirst K (ga K x) && (eqO (findIn K (.ref (ga K x)) (PySem.dunder op.info.2)) (some (some (.ref (ma K (ga K x) (PySem.dunder op.info.2))))) && (isFn K (.ref (ma K (ga K x) (PySem.dunder op.info.2))) &&
  ((match findIn K (.ref (ga K x)) (dunderR op.info.2) with
    | some none => true
    | some (some (.ref _)) => true
    | _ => false) && ((findIn K (.type T) (PySem.dunder op.info.2)).isSome && ((findIn K (.type T) (dunderR op.info.2)).isSome && decide (subIn K (.type T) (.ref (ga K x)) = some false))))))
theorem bin_ok {K : Frag} {x : Str} {op : Operator} {T : String} (c : fBin x op T K = true) : ∃ fo ro rc, BinC K (ga K x) op (ma K (ga K x) (PySem.dunder op.info.2)) T fo ro rc := by
  obtain ⟨c1, c⟩ := ba c
  obtain ⟨c2, c⟩ := ba c
  obtain ⟨c3, c⟩ := ba c
  obtain ⟨c4, c⟩ := ba c
  obtain ⟨c5, c⟩ := ba c
  obtain ⟨c6, c7⟩ := ba c
  obtain ⟨fo, e5⟩ := Option.isSome_iff_exists.mp c5
  obtain ⟨ro, e6⟩ := Option.isSome_iff_exists.mp c6
  cases q : findIn K (.ref (ga K x)) (dunderR op.info.2) with
  | none =>
    rw [q] at c4
    cases c4
  | some rc =>
    rw [q] at c4
    refine ⟨fo, ro, rc, c1, eqO_ok c2, c3, q, ?_, e5, e6, of_decide_eq_true c7⟩
    cases rc with
    | none => exact .inl rfl
    | some v =>
      cases v with
      | ref g => exact .inr ⟨g, rfl⟩
      | _ => cases c4
def fNf (x : Str) (T : String) : Ft := fun K => notFirst K (ga K x) (.type T)
theorem nf_ok {K : Frag} {x : Str} {T : String} (c : fNf x T K = true) : notFirst K (ga K x) (.type T) = true := c
/-! ### C( *xs, y, ..) -/
theorem args_star2 {M : Model} {A : Around} {E : Value → Shared → Prop} {s : Shared} {f : Value} {v w : Sem Value} {b : Bool} {rest : List (Bool × Sem Value)} {Q : Args → Shared → Prop}
    (h : wpAny M A (spliced ((true, v) :: (b, w) :: rest)) (fun vs s' => Q ⟨vs, []⟩ s') E s) : wpAny M A (evalArgs f true ((true, v) :: (b, w) :: rest) []) Q E s := by
  unfold evalArgs
  show wpAny M A (spliced ((true, v) :: (b, w) :: rest) >>= _) Q E s
  exact wpAny_bind (wpAny_mono h (fun vs s' h' => wpAny_holding (wpAny_bind (wpAny_pure (wpAny_bind (wpAny_pure (wpAny_pure h')))))) fun _ _ x => x)
section
variable {gd : Bool} {X : Cx} {k : Nat} {f C : Addr} {sp : Sp} {E : XK} {x : Str} {e e2 : Expr} {es : List Expr} {t : TA} {p p1 pos : Pos}
theorem pe_mkSN (M : Mk X.K C f) (F : Fn gd X.prog X.w X.K X.mg X.base k f [] sp) (hr : Rm gd (k + 1) X.A) (hg : Gl X x) (hm : X.mg x = some (.ref C)) (hx : Passes (L2.CX X.prog X.w) X E) (ha : PA X (.Starred e p1 :: e2 :: es) t) (hdb : (x == ("__debug__" : Str)) = false := by decide)
    (he : starEach (.Starred e p1 :: e2 :: es) X.env = (true, eval e X.env) :: (false, eval e2 X.env) :: starEach es X.env := by rfl) : PE X (.Call (.Name x p) (.Starred e p1 :: e2 :: es) [] pos) (cMake C sp E t) := by
  refine ⟨fun pins s σ H Q I h => ?_⟩
  refine wpAny_Call_Name_kw (ld_glob I hg hm ?_ hdb)
  have z := thn (ha.run pos pins s σ H _ I h) fun us s1 ⟨vs, H1, I1, r, q⟩ => (⟨I1.kIn, run_mk0 M F hr hx I1 r q⟩ : X.K.In s1.heap ∧ wpAny (model X.prog X.w) X.A (call (.ref C) us) (EP X pins σ Q) X.xe s1)
  rw [he] at z ⊢
  refine ks_call (P := fun h => X.K.In h) rfl (keeps_K M.kp) ?_
  exact args_star2 z
end
end FX

/-! xs[::-1] with a new list told; x in [x] by identity. -/
namespace FX
open PySem PySem.Spec PyProof.Rows L2 FL FR He FH
section
variable {X : Cx} {te : TE}
theorem r_revL {K : PySem.W.Frag} {σ : L2.St} {H : Hp} {Q : VK} : tRevL K te σ H Q = te σ H fun x H1 => ∃ a xs, x = .ref a ∧ SqL K H1 a xs ∧ ∀ p, H1 p = none → Q (.ref p) (upd H1 p (.lst xs.reverse)) := propext Iff.rfl
/-- x in [x] -/
def rInSelf : R2 := fun x y H Q => ∃ a, x = .ref a ∧ ∃ l, y = .ref l ∧ H l = some (.lst [.ref a]) ∧ Q (.bl true) H
theorem eq_self {a : Addr} : MeetsSeq.EqGives (.ref a) (.ref a) true := fun prog w A E s Q h => by
  unfold eqBool
  simp only [oneThing_ref, decide_true, beq_self_eq_true, if_true]
  refine wpAny_holding ?_
  repeat (first | exact wpAny_pure h | exact h | wp_step)
theorem op_in_self : OpR X (compareOp .In) rInSelf := by
  intro pins s σ H x y v u Q I rx ry h
  obtain ⟨a, rfl, l, rfl, hl, q⟩ := h
  cases ry
  obtain rfl : v = Value.ref a := rx
  obtain ⟨its, r, pl, hz⟩ := I.list (SqL.of hl)
  obtain ⟨w, rfl, rw'⟩ := vals1 r
  obtain rfl : w = Value.ref a := rw'
  refine SeqAt.in_listAt (fun _ => true) pl.isList (fun w hw => ?_) ⟨.bl true, H, I, (show Value.bool (#[Value.ref a].any fun _ => true) = Value.bool true by congr 1; simp), q⟩
  have e : w = Value.ref a := by simpa using hw
  subst e
  exact eq_self.at _ _
end
end FX

namespace FLG
open PySem PySem.Spec PyProof.Rows L2 FL FH FR FX FE FLm He TL
def top (i : Nat) : Stmt := PySem.Challenge.pw_filelayer_k05_paths_as_rows.main.body.getD i (.Pass ⟨0, 0, 0, 0⟩)
abbrev s_law_next : Stmt := top 16
abbrev N_law_next : List Str := ["_law_source_here", "_law_many", "_law_found", "_law_primes", "_law_prime"]
theorem sc_law_next : FnScope N_law_next ["_law_source_here", "_law_many"] (defScope s_law_next) := ⟨rfl, rfl, rfl, by decide +kernel, rfl, by decide +kernel, by decide +kernel⟩
def d_law_next : DX := ⟨aG "_law_next", "_law_next", "_law_next", s_law_next, [], []⟩
theorem b_law_next {K : PySem.W.Frag} {fd : FuncData} (F : FunX K d_law_next fd) : Binds K fd ["_law_source_here", "_law_many"] [] := FunD.bindsN F fun _ _ _ _ _ _ us hl => match us, hl with | [_, _], _ => rfl
abbrev s_law_source : Stmt := top 15
abbrev N_law_source : List Str := ["_law_script", "_law_k", "_law_cell"]
theorem sc_law_source : FnScope N_law_source ["_law_script", "_law_k"] (defScope s_law_source) := ⟨rfl, rfl, rfl, by decide +kernel, rfl, by decide +kernel, by decide +kernel⟩
def d_law_source : DX := ⟨aG "_law_source", "_law_source", "_law_source", s_law_source, [], []⟩
theorem b_law_source {K : PySem.W.Frag} {fd : FuncData} (F : FunX K d_law_source fd) : Binds K fd ["_law_script", "_law_k"] [] := FunD.bindsN F fun _ _ _ _ _ _ us hl => match us, hl with | [_, _], _ => rfl
abbrev s_law_pick : Stmt := top 17
abbrev N_law_pick : List Str := ["_law_source_here", "_law_items"]
theorem sc_law_pick : FnScope N_law_pick ["_law_source_here", "_law_items"] (defScope s_law_pick) := ⟨rfl, rfl, rfl, by decide +kernel, rfl, by decide +kernel, by decide +kernel⟩
def d_law_pick : DX := ⟨aG "_law_pick", "_law_pick", "_law_pick", s_law_pick, [], []⟩
theorem b_law_pick {K : PySem.W.Frag} {fd : FuncData} (F : FunX K d_law_pick fd) : Binds K fd ["_law_source_here", "_law_items"] [] := FunD.bindsN F fun _ _ _ _ _ _ us hl => match us, hl with | [_, _], _ => rfl
abbrev s_BadName_init : Stmt := inClass (top 4) 0
abbrev N_BadName_init : List Str := ["self", "reason"]
theorem sc_BadName_init : FnScope N_BadName_init ["self", "reason"] (defScope s_BadName_init) := ⟨rfl, rfl, rfl, by decide +kernel, rfl, by decide +kernel, by decide +kernel⟩
def d_BadName_init : DX := ⟨aM "BadName" "__init__", "__init__", "BadName.__init__", s_BadName_init, [], []⟩
theorem b_BadName_init {K : PySem.W.Frag} {fd : FuncData} (F : FunX K d_BadName_init fd) : Binds K fd ["self", "reason"] [] := FunD.bindsN F fun _ _ _ _ _ _ us hl => match us, hl with | [_, _], _ => rfl
abbrev s_BadPath_init : Stmt := inClass (top 3) 0
abbrev N_BadPath_init : List Str := ["self", "reason"]
theorem sc_BadPath_init : FnScope N_BadPath_init ["self", "reason"] (defScope s_BadPath_init) := ⟨rfl, rfl, rfl, by decide +kernel, rfl, by decide +kernel, by decide +kernel⟩
def d_BadPath_init : DX := ⟨aM "BadPath" "__init__", "__init__", "BadPath.__init__", s_BadPath_init, [], []⟩
theorem b_BadPath_init {K : PySem.W.Frag} {fd : FuncData} (F : FunX K d_BadPath_init fd) : Binds K fd ["self", "reason"] [] := FunD.bindsN F fun _ _ _ _ _ _ us hl => match us, hl with | [_, _], _ => rfl
abbrev s_BadNumber_init : Stmt := inClass (top 5) 0
abbrev N_BadNumber_init : List Str := ["self", "reason"]
theorem sc_BadNumber_init : FnScope N_BadNumber_init ["self", "reason"] (defScope s_BadNumber_init) := ⟨rfl, rfl, rfl, by decide +kernel, rfl, by decide +kernel, by decide +kernel⟩
def d_BadNumber_init : DX := ⟨aM "BadNumber" "__init__", "__init__", "BadNumber.__init__", s_BadNumber_init, [], []⟩
theorem b_BadNumber_init {K : PySem.W.Frag} {fd : FuncData} (F : FunX K d_BadNumber_init fd) : Binds K fd ["self", "reason"] [] := FunD.bindsN F fun _ _ _ _ _ _ us hl => match us, hl with | [_, _], _ => rfl
abbrev s_is_name : Stmt := top 11
abbrev N_is_name : List Str := ["value", "sign"]
theorem sc_is_name : FnScope N_is_name ["value"] (defScope s_is_name) := ⟨rfl, rfl, rfl, by decide +kernel, rfl, by decide +kernel, by decide +kernel⟩
def d_is_name : DX := ⟨aG "is_name", "is_name", "is_name", s_is_name, [], []⟩
theorem b_is_name {K : PySem.W.Frag} {fd : FuncData} (F : FunX K d_is_name fd) : Binds K fd ["value"] [] := FunD.bindsN F fun _ _ _ _ _ _ us hl => match us, hl with | [_], _ => rfl
abbrev s_Path_init : Stmt := inClass (top 13) 1
abbrev N_Path_init : List Str := ["self", "names", "name"]
theorem sc_Path_init : FnScope N_Path_init ["self", "names"] (defScope s_Path_init) := ⟨rfl, rfl, rfl, by decide +kernel, rfl, by decide +kernel, by decide +kernel⟩
def d_Path_init : DX := ⟨aM "Path" "__init__", "__init__", "Path.__init__", s_Path_init, [], []⟩
theorem v_Path_init {K : PySem.W.Frag} {fd : FuncData} (F : FunX K d_Path_init fd) : ∀ us rest : List Value, us.length = 1 → bindArgs fd ⟨us ++ rest, []⟩ = (newTuple rest >>= fun t => pure ((["self"] : List Str).zip us ++ [(("names" : Str), t)])) := by
  obtain ⟨oc, od, dV, kV, doc, pm, an, cdv, ct, osl, e, lk, hcd, hD, hK⟩ := F.ex
  subst e
  have hz : dV = .none := by
    rcases hD with ⟨_, z⟩ | ⟨e, _⟩
    · exact z
    · exact absurd rfl e
  subst hz
  intro us rest hl
  match us, hl with
  | [_], _ => cases rest with
    | nil => rfl
    | cons y ys => rfl
abbrev s_Path_name : Stmt := inClass (top 13) 5
abbrev N_Path_name : List Str := ["self"]
theorem sc_Path_name : FnScope N_Path_name ["self"] (defScope s_Path_name) := ⟨rfl, rfl, rfl, by decide +kernel, rfl, by decide +kernel, by decide +kernel⟩
def d_Path_name : DX := ⟨aP "Path" "name", "name", "Path.name", s_Path_name, [], []⟩
theorem b_Path_name {K : PySem.W.Frag} {fd : FuncData} (F : FunX K d_Path_name fd) : Binds K fd ["self"] [] := FunD.bindsN F fun _ _ _ _ _ _ us hl => match us, hl with | [_], _ => rfl
abbrev s_Path_len : Stmt := inClass (top 13) 10
abbrev N_Path_len : List Str := ["self"]
theorem sc_Path_len : FnScope N_Path_len ["self"] (defScope s_Path_len) := ⟨rfl, rfl, rfl, by decide +kernel, rfl, by decide +kernel, by decide +kernel⟩
def d_Path_len : DX := ⟨aM "Path" "__len__", "__len__", "Path.__len__", s_Path_len, [], []⟩
theorem b_Path_len {K : PySem.W.Frag} {fd : FuncData} (F : FunX K d_Path_len fd) : Binds K fd ["self"] [] := FunD.bindsN F fun _ _ _ _ _ _ us hl => match us, hl with | [_], _ => rfl
abbrev s_law_good_name : Stmt := top 18
abbrev N_law_good_name : List Str := ["_law_source_here", "_law_some"]
theorem sc_law_good_name : FnScope N_law_good_name ["_law_source_here"] (defScope s_law_good_name) := ⟨rfl, rfl, rfl, by decide +kernel, rfl, by decide +kernel, by decide +kernel⟩
def d_law_good_name : DX := ⟨aG "_law_good_name", "_law_good_name", "_law_good_name", s_law_good_name, [], []⟩
theorem b_law_good_name {K : PySem.W.Frag} {fd : FuncData} (F : FunX K d_law_good_name fd) : Binds K fd ["_law_source_here"] [] := FunD.bindsN F fun _ _ _ _ _ _ us hl => match us, hl with | [_], _ => rfl
abbrev s_law_row : Stmt := top 21
abbrev N_law_row : List Str := ["_law_source_here", "_law_most", "_law_turn"]
theorem sc_law_row : FnScope N_law_row ["_law_source_here", "_law_most"] (defScope s_law_row) := ⟨rfl, rfl, rfl, by decide +kernel, rfl, by decide +kernel, by decide +kernel⟩
def d_law_row : DX := ⟨aG "_law_row", "_law_row", "_law_row", s_law_row, [], []⟩
theorem b_law_row {K : PySem.W.Frag} {fd : FuncData} (F : FunX K d_law_row fd) : Binds K fd ["_law_source_here", "_law_most"] [] := FunD.bindsN F fun _ _ _ _ _ _ us hl => match us, hl with | [_, _], _ => rfl
abbrev s_law_invalid : Stmt := top 22
abbrev N_law_invalid : List Str := ["_law_call_so", "_law_caught", "error", "_law_kinds", "_law_word", "_law_is_so"]
theorem sc_law_invalid : FnScope N_law_invalid ["_law_call_so"] (defScope s_law_invalid) := ⟨rfl, rfl, rfl, by decide +kernel, rfl, by decide +kernel, by decide +kernel⟩
def d_law_invalid : DX := ⟨aG "_law_invalid", "_law_invalid", "_law_invalid", s_law_invalid, [], []⟩
theorem b_law_invalid {K : PySem.W.Frag} {fd : FuncData} (F : FunX K d_law_invalid fd) : Binds K fd ["_law_call_so"] [] := FunD.bindsN F fun _ _ _ _ _ _ us hl => match us, hl with | [_], _ => rfl
abbrev s_law_path_of_row : Stmt := top 20
abbrev N_law_path_of_row : List Str := ["_law_p"]
theorem sc_law_path_of_row : FnScope N_law_path_of_row ["_law_p"] (defScope s_law_path_of_row) := ⟨rfl, rfl, rfl, by decide +kernel, rfl, by decide +kernel, by decide +kernel⟩
def d_law_path_of_row : DX := ⟨aG "_law_path_of_row", "_law_path_of_row", "_law_path_of_row", s_law_path_of_row, [], []⟩
theorem b_law_path_of_row {K : PySem.W.Frag} {fd : FuncData} (F : FunX K d_law_path_of_row fd) : Binds K fd ["_law_p"] [] := FunD.bindsN F fun _ _ _ _ _ _ us hl => match us, hl with | [_], _ => rfl
abbrev s_law_bad_name : Stmt := top 19
abbrev N_law_bad_name : List Str := ["_law_source_here", "_law_some"]
theorem sc_law_bad_name : FnScope N_law_bad_name ["_law_source_here"] (defScope s_law_bad_name) := ⟨rfl, rfl, rfl, by decide +kernel, rfl, by decide +kernel, by decide +kernel⟩
def d_law_bad_name : DX := ⟨aG "_law_bad_name", "_law_bad_name", "_law_bad_name", s_law_bad_name, [], []⟩
theorem b_law_bad_name {K : PySem.W.Frag} {fd : FuncData} (F : FunX K d_law_bad_name fd) : Binds K fd ["_law_source_here"] [] := FunD.bindsN F fun _ _ _ _ _ _ us hl => match us, hl with | [_], _ => rfl
abbrev s_law_spelled : Stmt := top 23
abbrev N_law_spelled : List Str := ["_law_row_here", "_law_name"]
theorem sc_law_spelled : FnScope N_law_spelled ["_law_row_here"] (defScope s_law_spelled) := ⟨rfl, rfl, rfl, by decide +kernel, rfl, by decide +kernel, by decide +kernel⟩
def d_law_spelled : DX := ⟨aG "_law_spelled", "_law_spelled", "_law_spelled", s_law_spelled, [], []⟩
theorem b_law_spelled {K : PySem.W.Frag} {fd : FuncData} (F : FunX K d_law_spelled fd) : Binds K fd ["_law_row_here"] [] := FunD.bindsN F fun _ _ _ _ _ _ us hl => match us, hl with | [_], _ => rfl
abbrev s_Path_eq : Stmt := inClass (top 13) 9
abbrev N_Path_eq : List Str := ["self", "other"]
theorem sc_Path_eq : FnScope N_Path_eq ["self", "other"] (defScope s_Path_eq) := ⟨rfl, rfl, rfl, by decide +kernel, rfl, by decide +kernel, by decide +kernel⟩
def d_Path_eq : DX := ⟨aM "Path" "__eq__", "__eq__", "Path.__eq__", s_Path_eq, [], []⟩
theorem b_Path_eq {K : PySem.W.Frag} {fd : FuncData} (F : FunX K d_Path_eq fd) : Binds K fd ["self", "other"] [] := FunD.bindsN F fun _ _ _ _ _ _ us hl => match us, hl with | [_, _], _ => rfl
abbrev s_is_integer : Stmt := top 10
abbrev N_is_integer : List Str := ["value", "low", "high"]
theorem sc_is_integer : FnScope N_is_integer ["value", "low", "high"] (defScope s_is_integer) := ⟨rfl, rfl, rfl, by decide +kernel, rfl, by decide +kernel, by decide +kernel⟩
def d_is_integer : DX := ⟨aG "is_integer", "is_integer", "is_integer", s_is_integer, [], []⟩
theorem b_is_integer {K : PySem.W.Frag} {fd : FuncData} (F : FunX K d_is_integer fd) : Binds K fd ["value", "low", "high"] [] := FunD.bindsN F fun _ _ _ _ _ _ us hl => match us, hl with | [_, _, _], _ => rfl
abbrev s_Path_getitem : Stmt := inClass (top 13) 11
abbrev N_Path_getitem : List Str := ["self", "k"]
theorem sc_Path_getitem : FnScope N_Path_getitem ["self", "k"] (defScope s_Path_getitem) := ⟨rfl, rfl, rfl, by decide +kernel, rfl, by decide +kernel, by decide +kernel⟩
def d_Path_getitem : DX := ⟨aM "Path" "__getitem__", "__getitem__", "Path.__getitem__", s_Path_getitem, [], []⟩
theorem b_Path_getitem {K : PySem.W.Frag} {fd : FuncData} (F : FunX K d_Path_getitem fd) : Binds K fd ["self", "k"] [] := FunD.bindsN F fun _ _ _ _ _ _ us hl => match us, hl with | [_, _], _ => rfl
abbrev s_Path_contains : Stmt := inClass (top 13) 12
abbrev N_Path_contains : List Str := ["self", "name"]
theorem sc_Path_contains : FnScope N_Path_contains ["self", "name"] (defScope s_Path_contains) := ⟨rfl, rfl, rfl, by decide +kernel, rfl, by decide +kernel, by decide +kernel⟩
def d_Path_contains : DX := ⟨aM "Path" "__contains__", "__contains__", "Path.__contains__", s_Path_contains, [], []⟩
theorem b_Path_contains {K : PySem.W.Frag} {fd : FuncData} (F : FunX K d_Path_contains fd) : Binds K fd ["self", "name"] [] := FunD.bindsN F fun _ _ _ _ _ _ us hl => match us, hl with | [_, _], _ => rfl
abbrev s_Path_floordiv : Stmt := inClass (top 13) 8
abbrev N_Path_floordiv : List Str := ["self", "name"]
theorem sc_Path_floordiv : FnScope N_Path_floordiv ["self", "name"] (defScope s_Path_floordiv) := ⟨rfl, rfl, rfl, by decide +kernel, rfl, by decide +kernel, by decide +kernel⟩
def d_Path_floordiv : DX := ⟨aM "Path" "__floordiv__", "__floordiv__", "Path.__floordiv__", s_Path_floordiv, [], []⟩
theorem b_Path_floordiv {K : PySem.W.Frag} {fd : FuncData} (F : FunX K d_Path_floordiv fd) : Binds K fd ["self", "name"] [] := FunD.bindsN F fun _ _ _ _ _ _ us hl => match us, hl with | [_, _], _ => rfl
abbrev s_law_longer_right : Stmt := top 25
abbrev N_law_longer_right : List Str := ["_law_source_here", "_law_row_here", "_law_odd", "_law_one", "_law_word"]
theorem sc_law_longer_right : FnScope N_law_longer_right ["_law_source_here", "_law_row_here"] (defScope s_law_longer_right) := ⟨rfl, rfl, rfl, by decide +kernel, rfl, by decide +kernel, by decide +kernel⟩
def d_law_longer_right : DX := ⟨aG "_law_longer_right", "_law_longer_right", "_law_longer_right", s_law_longer_right, [], []⟩
theorem b_law_longer_right {K : PySem.W.Frag} {fd : FuncData} (F : FunX K d_law_longer_right fd) : Binds K fd ["_law_source_here", "_law_row_here"] [] := FunD.bindsN F fun _ _ _ _ _ _ us hl => match us, hl with | [_, _], _ => rfl
abbrev s_law_compared_right : Stmt := top 26
abbrev N_law_compared_right : List Str := ["_law_near", "_law_far", "_law_one", "_law_other", "_law_told", "_law_odds", "_law_odd"]
theorem sc_law_compared_right : FnScope N_law_compared_right ["_law_near", "_law_far"] (defScope s_law_compared_right) := ⟨rfl, rfl, rfl, by decide +kernel, rfl, by decide +kernel, by decide +kernel⟩
def d_law_compared_right : DX := ⟨aG "_law_compared_right", "_law_compared_right", "_law_compared_right", s_law_compared_right, [], []⟩
theorem b_law_compared_right {K : PySem.W.Frag} {fd : FuncData} (F : FunX K d_law_compared_right fd) : Binds K fd ["_law_near", "_law_far"] [] := FunD.bindsN F fun _ _ _ _ _ _ us hl => match us, hl with | [_, _], _ => rfl
abbrev s_law_read_right : Stmt := top 24
abbrev N_law_read_right : List Str := ["_law_source_here", "_law_row_here", "_law_word", "_law_told", "_law_odd", "_law_one", "_law_n"]
theorem sc_law_read_right : FnScope N_law_read_right ["_law_source_here", "_law_row_here"] (defScope s_law_read_right) := ⟨rfl, rfl, rfl, by decide +kernel, rfl, by decide +kernel, by decide +kernel⟩
def d_law_read_right : DX := ⟨aG "_law_read_right", "_law_read_right", "_law_read_right", s_law_read_right, [], []⟩
theorem b_law_read_right {K : PySem.W.Frag} {fd : FuncData} (F : FunX K d_law_read_right fd) : Binds K fd ["_law_source_here", "_law_row_here"] [] := FunD.bindsN F fun _ _ _ _ _ _ us hl => match us, hl with | [_, _], _ => rfl
abbrev s_law : Stmt := top 27
abbrev N_law : List Str := ["_law_script", "_law_k", "_law_source_here", "_law_turn", "_law_row_here", "_law_bent", "_law_far"]
theorem sc_law : FnScope N_law ["_law_script"] (defScope s_law) := ⟨rfl, rfl, rfl, by decide +kernel, rfl, by decide +kernel, by decide +kernel⟩
def d_law : DX := ⟨aG "law", "law", "law", s_law, [], []⟩
theorem b_law {K : PySem.W.Frag} {fd : FuncData} (F : FunX K d_law fd) : Binds K fd ["_law_script"] [] := FunD.bindsN F fun _ _ _ _ _ _ us hl => match us, hl with | [_], _ => rfl
def fa : List Ft := [fFree "len",
 fOx famV "BadName" "reason",
 fBase "Invalid" "__init__" famV.initId,
 fGlo "Invalid",
 fOx famV "BadPath" "reason",
 fOx famV "BadNumber" "reason",
 fFree "all",
 fStr "NAME_SIGNS" "abcdefghijklmnopqrstuvwxyz0123456789_-.",
 fInt "MAX_NAME" (12),
 fFree "isinstance",
 fFree "str",
 fInt "MAX_NAMES" (12),
 fGlo "BadPath",
 fGlo "BadName",
 fCls "Path",
 fNo "Path" "names",
 fFree "range",
 fExcC "BadName",
 fExm "BadName" "Invalid" true,
 fKit (fun K => .ref (ga K "BadName")) (fun K => .ref (ga K "BadName")) true,
 fKit (fun K => .ref (ga K "BadName")) (fun K => .ref (ga K "BadPath")) false,
 fKit (fun K => .ref (ga K "BadName")) (fun K => .ref (ga K "BadNumber")) false,
 fExcC "BadPath",
 fExm "BadPath" "Invalid" true,
 fKit (fun K => .ref (ga K "BadPath")) (fun K => .ref (ga K "BadName")) false,
 fKit (fun K => .ref (ga K "BadPath")) (fun K => .ref (ga K "BadPath")) true,
 fKit (fun K => .ref (ga K "BadPath")) (fun K => .ref (ga K "BadNumber")) false,
 fExcC "BadNumber",
 fExm "BadNumber" "Invalid" true,
 fKit (fun K => .ref (ga K "BadNumber")) (fun K => .ref (ga K "BadName")) false,
 fKit (fun K => .ref (ga K "BadNumber")) (fun K => .ref (ga K "BadPath")) false,
 fKit (fun K => .ref (ga K "BadNumber")) (fun K => .ref (ga K "BadNumber")) true,
 fGlo "BadNumber",
 fMkr "Path",
 fGlo "Path",
 fIns "Path",
 fKit (fun K => .ref (ga K "Path")) (fun K => .ref (ga K "Path")) true,
 fFree "bool",
 fFree "int",
 fBin "Path" .FloorDiv "str",
 fBin "Path" .FloorDiv "NoneType",
 fBin "Path" .FloorDiv "int",
 fBin "Path" .FloorDiv "bool",
 fBin "Path" .FloorDiv "tuple",
 fBin "Path" .FloorDiv "list",
 fBin "Path" .FloorDiv "dict",
 fFree "tuple",
 fNe "Path",
 fMeth "Path" "__eq__",
 fFree "repr",
 fNf "Path" "NoneType",
 fKit (fun _ => .type "NoneType") (fun K => .ref (ga K "Path")) false,
 fNf "Path" "int",
 fKit (fun _ => .type "int") (fun K => .ref (ga K "Path")) false,
 fNf "Path" "bool",
 fKit (fun _ => .type "bool") (fun K => .ref (ga K "Path")) false,
 fNf "Path" "dict",
 fKit (fun _ => .type "dict") (fun K => .ref (ga K "Path")) false,
 fNf "Path" "list",
 fKit (fun _ => .type "list") (fun K => .ref (ga K "Path")) false,
 fNf "Path" "tuple",
 fKit (fun _ => .type "tuple") (fun K => .ref (ga K "Path")) false,
 fNf "Path" "str",
 fKit (fun _ => .type "str") (fun K => .ref (ga K "Path")) false,
 fMeth "Path" "__contains__",
 fMeth "Path" "__getitem__",
 fFnM "Path" "__getitem__",
 fMeth "Path" "__len__",
 fFree "max",
 fFree "min",
 fFree "list",
 fGlo "_law_next",
 fGlo "_law_source",
 fGlo "_law_pick",
 fGlo "is_name",
 fGlo "_law_good_name",
 fGlo "_law_row",
 fGlo "_law_invalid",
 fGlo "_law_path_of_row",
 fGlo "_law_bad_name",
 fGlo "_law_spelled",
 fGlo "is_integer",
 fGlo "_law_longer_right",
 fGlo "_law_compared_right",
 fGlo "_law_read_right",
 fGlo "law"]
def fn : List DX := [d_law_next, d_law_source, d_law_pick, d_BadName_init, d_BadPath_init, d_BadNumber_init, d_is_name, d_Path_init, d_Path_name, d_Path_len, d_law_good_name, d_law_row, d_law_invalid, d_law_path_of_row, d_law_bad_name, d_law_spelled, d_Path_eq, d_is_integer, d_Path_getitem, d_Path_contains, d_Path_floordiv, d_law_longer_right, d_law_compared_right, d_law_read_right, d_law]
def lm : List DX := [d_law_longer_right, d_law_read_right]
section
variable {K : PySem.W.Frag} {mg : Str → Option Value} (T : Tx fa fn K mg)
include T
theorem F_law_next : ∃ fd, FunX K d_law_next fd := T.c.def_ 0 (d := d_law_next) rfl
theorem k_law_next : PySem.W.keepIn K (.ref ((aG "_law_next") K)) = true := let ⟨_, F⟩ := F_law_next T; F.kp
theorem g_law_next : mg "_law_next" = some (.ref ((aG "_law_next") K)) := (T.glo (T.c.fact 71 (f := fGlo "_law_next") rfl))
theorem F_law_source : ∃ fd, FunX K d_law_source fd := T.c.def_ 1 (d := d_law_source) rfl
theorem k_law_source : PySem.W.keepIn K (.ref ((aG "_law_source") K)) = true := let ⟨_, F⟩ := F_law_source T; F.kp
theorem g_law_source : mg "_law_source" = some (.ref ((aG "_law_source") K)) := (T.glo (T.c.fact 72 (f := fGlo "_law_source") rfl))
theorem F_law_pick : ∃ fd, FunX K d_law_pick fd := T.c.def_ 2 (d := d_law_pick) rfl
theorem k_law_pick : PySem.W.keepIn K (.ref ((aG "_law_pick") K)) = true := let ⟨_, F⟩ := F_law_pick T; F.kp
theorem g_law_pick : mg "_law_pick" = some (.ref ((aG "_law_pick") K)) := (T.glo (T.c.fact 73 (f := fGlo "_law_pick") rfl))
theorem F_BadName_init : ∃ fd, FunX K d_BadName_init fd := T.c.def_ 3 (d := d_BadName_init) rfl
theorem k_BadName_init : PySem.W.keepIn K (.ref ((aM "BadName" "__init__") K)) = true := let ⟨_, F⟩ := F_BadName_init T; F.kp
theorem F_BadPath_init : ∃ fd, FunX K d_BadPath_init fd := T.c.def_ 4 (d := d_BadPath_init) rfl
theorem k_BadPath_init : PySem.W.keepIn K (.ref ((aM "BadPath" "__init__") K)) = true := let ⟨_, F⟩ := F_BadPath_init T; F.kp
theorem F_BadNumber_init : ∃ fd, FunX K d_BadNumber_init fd := T.c.def_ 5 (d := d_BadNumber_init) rfl
theorem k_BadNumber_init : PySem.W.keepIn K (.ref ((aM "BadNumber" "__init__") K)) = true := let ⟨_, F⟩ := F_BadNumber_init T; F.kp
theorem F_is_name : ∃ fd, FunX K d_is_name fd := T.c.def_ 6 (d := d_is_name) rfl
theorem k_is_name : PySem.W.keepIn K (.ref ((aG "is_name") K)) = true := let ⟨_, F⟩ := F_is_name T; F.kp
theorem g_is_name : mg "is_name" = some (.ref ((aG "is_name") K)) := (T.glo (T.c.fact 74 (f := fGlo "is_name") rfl))
theorem F_Path_init : ∃ fd, FunX K d_Path_init fd := T.c.def_ 7 (d := d_Path_init) rfl
theorem k_Path_init : PySem.W.keepIn K (.ref ((aM "Path" "__init__") K)) = true := let ⟨_, F⟩ := F_Path_init T; F.kp
theorem F_Path_name : ∃ fd, FunX K d_Path_name fd := T.c.def_ 8 (d := d_Path_name) rfl
theorem k_Path_name : PySem.W.keepIn K (.ref ((aP "Path" "name") K)) = true := let ⟨_, F⟩ := F_Path_name T; F.kp
theorem F_Path_len : ∃ fd, FunX K d_Path_len fd := T.c.def_ 9 (d := d_Path_len) rfl
theorem k_Path_len : PySem.W.keepIn K (.ref ((aM "Path" "__len__") K)) = true := let ⟨_, F⟩ := F_Path_len T; F.kp
theorem F_law_good_name : ∃ fd, FunX K d_law_good_name fd := T.c.def_ 10 (d := d_law_good_name) rfl
theorem k_law_good_name : PySem.W.keepIn K (.ref ((aG "_law_good_name") K)) = true := let ⟨_, F⟩ := F_law_good_name T; F.kp
theorem g_law_good_name : mg "_law_good_name" = some (.ref ((aG "_law_good_name") K)) := (T.glo (T.c.fact 75 (f := fGlo "_law_good_name") rfl))
theorem F_law_row : ∃ fd, FunX K d_law_row fd := T.c.def_ 11 (d := d_law_row) rfl
theorem k_law_row : PySem.W.keepIn K (.ref ((aG "_law_row") K)) = true := let ⟨_, F⟩ := F_law_row T; F.kp
theorem g_law_row : mg "_law_row" = some (.ref ((aG "_law_row") K)) := (T.glo (T.c.fact 76 (f := fGlo "_law_row") rfl))
theorem F_law_invalid : ∃ fd, FunX K d_law_invalid fd := T.c.def_ 12 (d := d_law_invalid) rfl
theorem k_law_invalid : PySem.W.keepIn K (.ref ((aG "_law_invalid") K)) = true := let ⟨_, F⟩ := F_law_invalid T; F.kp
theorem g_law_invalid : mg "_law_invalid" = some (.ref ((aG "_law_invalid") K)) := (T.glo (T.c.fact 77 (f := fGlo "_law_invalid") rfl))
theorem F_law_path_of_row : ∃ fd, FunX K d_law_path_of_row fd := T.c.def_ 13 (d := d_law_path_of_row) rfl
theorem k_law_path_of_row : PySem.W.keepIn K (.ref ((aG "_law_path_of_row") K)) = true := let ⟨_, F⟩ := F_law_path_of_row T; F.kp
theorem g_law_path_of_row : mg "_law_path_of_row" = some (.ref ((aG "_law_path_of_row") K)) := (T.glo (T.c.fact 78 (f := fGlo "_law_path_of_row") rfl))
theorem F_law_bad_name : ∃ fd, FunX K d_law_bad_name fd := T.c.def_ 14 (d := d_law_bad_name) rfl
theorem k_law_bad_name : PySem.W.keepIn K (.ref ((aG "_law_bad_name") K)) = true := let ⟨_, F⟩ := F_law_bad_name T; F.kp
theorem g_law_bad_name : mg "_law_bad_name" = some (.ref ((aG "_law_bad_name") K)) := (T.glo (T.c.fact 79 (f := fGlo "_law_bad_name") rfl))
theorem F_law_spelled : ∃ fd, FunX K d_law_spelled fd := T.c.def_ 15 (d := d_law_spelled) rfl
theorem k_law_spelled : PySem.W.keepIn K (.ref ((aG "_law_spelled") K)) = true := let ⟨_, F⟩ := F_law_spelled T; F.kp
theorem g_law_spelled : mg "_law_spelled" = some (.ref ((aG "_law_spelled") K)) := (T.glo (T.c.fact 80 (f := fGlo "_law_spelled") rfl))
theorem F_Path_eq : ∃ fd, FunX K d_Path_eq fd := T.c.def_ 16 (d := d_Path_eq) rfl
theorem k_Path_eq : PySem.W.keepIn K (.ref ((aM "Path" "__eq__") K)) = true := let ⟨_, F⟩ := F_Path_eq T; F.kp
theorem F_is_integer : ∃ fd, FunX K d_is_integer fd := T.c.def_ 17 (d := d_is_integer) rfl
theorem k_is_integer : PySem.W.keepIn K (.ref ((aG "is_integer") K)) = true := let ⟨_, F⟩ := F_is_integer T; F.kp
theorem g_is_integer : mg "is_integer" = some (.ref ((aG "is_integer") K)) := (T.glo (T.c.fact 81 (f := fGlo "is_integer") rfl))
theorem F_Path_getitem : ∃ fd, FunX K d_Path_getitem fd := T.c.def_ 18 (d := d_Path_getitem) rfl
theorem k_Path_getitem : PySem.W.keepIn K (.ref ((aM "Path" "__getitem__") K)) = true := let ⟨_, F⟩ := F_Path_getitem T; F.kp
theorem F_Path_contains : ∃ fd, FunX K d_Path_contains fd := T.c.def_ 19 (d := d_Path_contains) rfl
theorem k_Path_contains : PySem.W.keepIn K (.ref ((aM "Path" "__contains__") K)) = true := let ⟨_, F⟩ := F_Path_contains T; F.kp
theorem F_Path_floordiv : ∃ fd, FunX K d_Path_floordiv fd := T.c.def_ 20 (d := d_Path_floordiv) rfl
theorem k_Path_floordiv : PySem.W.keepIn K (.ref ((aM "Path" "__floordiv__") K)) = true := let ⟨_, F⟩ := F_Path_floordiv T; F.kp
theorem F_law_longer_right : ∃ fd, FunX K d_law_longer_right fd := T.c.def_ 21 (d := d_law_longer_right) rfl
theorem k_law_longer_right : PySem.W.keepIn K (.ref ((aG "_law_longer_right") K)) = true := let ⟨_, F⟩ := F_law_longer_right T; F.kp
theorem g_law_longer_right : mg "_law_longer_right" = some (.ref ((aG "_law_longer_right") K)) := (T.glo (T.c.fact 82 (f := fGlo "_law_longer_right") rfl))
theorem F_law_compared_right : ∃ fd, FunX K d_law_compared_right fd := T.c.def_ 22 (d := d_law_compared_right) rfl
theorem k_law_compared_right : PySem.W.keepIn K (.ref ((aG "_law_compared_right") K)) = true := let ⟨_, F⟩ := F_law_compared_right T; F.kp
theorem g_law_compared_right : mg "_law_compared_right" = some (.ref ((aG "_law_compared_right") K)) := (T.glo (T.c.fact 83 (f := fGlo "_law_compared_right") rfl))
theorem F_law_read_right : ∃ fd, FunX K d_law_read_right fd := T.c.def_ 23 (d := d_law_read_right) rfl
theorem k_law_read_right : PySem.W.keepIn K (.ref ((aG "_law_read_right") K)) = true := let ⟨_, F⟩ := F_law_read_right T; F.kp
theorem g_law_read_right : mg "_law_read_right" = some (.ref ((aG "_law_read_right") K)) := (T.glo (T.c.fact 84 (f := fGlo "_law_read_right") rfl))
theorem F_law : ∃ fd, FunX K d_law fd := T.c.def_ 24 (d := d_law) rfl
theorem k_law : PySem.W.keepIn K (.ref ((aG "law") K)) = true := let ⟨_, F⟩ := F_law T; F.kp
theorem g_law : mg "law" = some (.ref ((aG "law") K)) := (T.glo (T.c.fact 85 (f := fGlo "law") rfl))
end

section
variable {gd : Bool} {P : Program} {w : World} {K : PySem.W.Frag} {mg : Str → Option Value} {base : Heap}

/-- a source of draws at a: [cell, count, many] -/
def Src (H : Hp) (a : Addr) (j : Int) : Prop := ∃ c d : Int, H a = some (.lst [.int c, .int j, .int d]) ∧ 0 ≤ j
def spNext : Sp := fun vs H Q _ => ∃ (a : Addr) (m j : Int), vs = [.ref a, .int m] ∧ 0 < m ∧ m < 536870912 ∧ Src H a j ∧ j < 1099511627776 ∧
  ∀ (r j' : Int) (H' : Hp), 0 ≤ r → r < m → j ≤ j' → j' ≤ j + 1 → Oth a H H' → Src H' a j' → Q (.int r) H'
theorem prime_at : ∀ i : Nat, i < 11 → ∃ p : Int, ([2147483647, 2147483629, 2147483587, 2147483579, 2147483563, 2147483549, 2147483543, 2147483497, 2147483489, 2147483477, 2147483423] : List Int)[i]? = some p ∧ 0 < p ∧ p < 2147483648 := by
  intro i hi
  match i, hi with
  | 0, _ | 1, _ | 2, _ | 3, _ | 4, _ | 5, _ | 6, _ | 7, _ | 8, _ | 9, _ | 10, _ => exact ⟨_, rfl, by decide, by decide⟩
theorem ok_law_next (T : Tx fa fn K mg) : Fn gd P w K mg base 1 (aG "_law_next" K) [] spNext := by
  obtain ⟨fd, F⟩ := F_law_next T
  refine fn_all F sc_law_next (fun vs H Q E h => ?_) (b_law_next F) (fun cdv A outer s H vs Q E hr h => ⟨_, (pss_cons (ps_if (pt_cmpR op_gt (pe_ix ix_lh (pv 0) pe_int (fun _ _ => rfl)) pe_int (nomark _))
 (pss_cons (ps_set (i := 2) sc_law_next.nd rfl (Or.inl rfl) (pe_op op_mod (pe_ix ix_lh (pv 0) pe_int (fun _ _ => rfl)) (pv 1)))
 (pss_cons (ps_asg (pe_op op_fdiv (pe_ix ix_lh (pv 0) pe_int (fun _ _ => rfl)) (pv 1)) (pg_sub (pv 0) pe_int set_list))
 (pss_one (ps_ret (pv 2)))))
 pss_nil)
 (pss_cons (ps_asg (pe_op op_add (pe_ix ix_lh (pv 0) pe_int (fun _ _ => rfl)) pe_int) (pg_sub (pv 0) pe_int set_list))
 (pss_cons (ps_set (i := 3) sc_law_next.nd rfl (Or.inl rfl) (pe_lst (pa_cons pe_int (pa_cons pe_int (pa_cons pe_int (pa_cons pe_int (pa_cons pe_int (pa_cons pe_int (pa_cons pe_int (pa_cons pe_int pa_nil))))))))))
 (pss_cons (ps_set (i := 4) sc_law_next.nd rfl (Or.inl rfl) (pe_ix ix_lh (pe_op op_cat_n (pv 3) (pe_lst (pa_cons pe_int (pa_cons pe_int (pa_cons pe_int pa_nil))))) (pe_op op_mod (pe_ix ix_lh (pv 0) pe_int (fun _ _ => rfl)) pe_int) (fun _ _ => rfl)))
 (pss_one (ps_ret (pe_op op_mod (pe_op op_fdiv (pe_op op_mod (pe_op op_pow (pe_op op_add (pe_op op_add (pe_op op_mod (pe_ix ix_lh (pv 0) pe_int (fun _ _ => rfl)) (pv 4)) (pe_op op_mul pe_int (pe_ix ix_lh (pv 0) pe_int (fun _ _ => rfl)))) pe_int) pe_int) (pv 4)) pe_int) (pv 1)))))))), ?_⟩)
  · first | (obtain ⟨_, e, _⟩ := h; subst e; rfl) | (obtain ⟨_, _, e, _⟩ := h; subst e; rfl) | (obtain ⟨_, _, _, e, _⟩ := h; subst e; rfl) | (obtain ⟨_, _, _, _, e, _⟩ := h; subst e; rfl) | (obtain ⟨_, _, _, _, _, e, _⟩ := h; subst e; rfl) | (obtain ⟨_, _, _, _, _, _, e, _⟩ := h; subst e; rfl) | (obtain ⟨_, _, _, _, _, _, _, e, _⟩ := h; subst e; rfl) | (obtain ⟨_, _, _, _, _, _, _, _, e, _⟩ := h; subst e; rfl) | (obtain ⟨_, _, _, _, _, _, _, _, _, e, _⟩ := h; subst e; rfl) | (obtain ⟨_, _, _, _, _, _, _, _, _, _, e, _⟩ := h; subst e; rfl) | (obtain ⟨_, _, _, _, _, _, _, _, _, _, _, e, _⟩ := h; subst e; rfl)
  obtain ⟨a, m, j, rfl, m0, m1, ⟨c, d, hs, j0⟩, j1, q⟩ := h
  try simp only [cxK, r_lam, r_dnew, r_err, r_base, r_serr, r_var, r_c, r_seq, r_next, r_break, r_cont, r_drop, r_ret, r_retN, r_if, r_ife, r_asg, r_name, r_op, r_un, r_nil, r_cons, r_lst2, r_tup2, r_lc, r_for, r_ilist, r_itup, r_istr, r_irng1, r_irng2, r_ienum, r_ienumS, wipe, r_cb, r_test, r_b, r_not, r_notV, r_andV, r_orV, r_isN, r_notN, r_m1, r_m0, r_fld, sFld, putF, r_par, r_sub, r_gtup, r_gnil, r_gcons, r_sl, r_nopart, r_part, r_bm, r_bm0, r_chain, r_call, r_callK, r_meth, r_prop, r_make, r_and, r_or, andT_t, andT_f, orT_t, orT_f, ifK_t, ifK_f, ifE_t, ifE_f, andK_t, andK_f, orK_t, orK_f, L2.start, List.map_cons, List.map_nil, List.length_cons, List.length_nil, List.replicate_succ, List.replicate_zero, List.cons_append, List.nil_append, List.getElem?_cons_succ, List.getElem?_cons_zero, List.set_cons_succ, List.set_cons_zero, Nat.reduceAdd, Nat.reduceSub, Nat.zero_add, decide_true, decide_false, Bool.not_true, Bool.not_false, if_true, if_false, rEq, rNe, scal_ii, scal_ss, scal_bb, scal_is, scal_si, scal_ns, scal_ni, scal_in, scal_sn, scal_nn, rI, rI0, rU, rIxLH, rIxTH, rLenH, rLenTH, rSetL, rCatN, rTupOfN, rLstOfN, rSlLN, rSlTN, CDiv, CPow, CMul, CDivW, rNeNil, rLenO, rSplitN, rRepN, r_replC, rMulS, r_methK, rRepTN, r_cmK, rCmpO, rInO, r_ixO, r_revL, rInSelf, rCmpA, rBinO, Bool.false_xor, Bool.true_xor, r_starT, r_starL, r_cm, r_cval, selK_t, selK_f, rAppend, rIsK, reduceCtorEq, upd_same, at0, at1, at2, at3, at4, at5, at6, at7, at8, at9, at10, at11, at12, at13, ix3_0, ix3_1, ix3_2, V.int.injEq, V.bl.injEq, V.str.injEq, V.ref.injEq, Option.some.injEq, HO.lst.injEq, HO.tup.injEq, HO.ins.injEq, List.cons.injEq, and_true, true_and, exists_eq_left, exists_eq_left', exists_and_left, exists_eq', exists_eq, and_assoc, N_law_next, hs]
  by_cases hd : 0 < d
  · try simp only [cxK, r_lam, r_dnew, r_err, r_base, r_serr, r_var, r_c, r_seq, r_next, r_break, r_cont, r_drop, r_ret, r_retN, r_if, r_ife, r_asg, r_name, r_op, r_un, r_nil, r_cons, r_lst2, r_tup2, r_lc, r_for, r_ilist, r_itup, r_istr, r_irng1, r_irng2, r_ienum, r_ienumS, wipe, r_cb, r_test, r_b, r_not, r_notV, r_andV, r_orV, r_isN, r_notN, r_m1, r_m0, r_fld, sFld, putF, r_par, r_sub, r_gtup, r_gnil, r_gcons, r_sl, r_nopart, r_part, r_bm, r_bm0, r_chain, r_call, r_callK, r_meth, r_prop, r_make, r_and, r_or, andT_t, andT_f, orT_t, orT_f, ifK_t, ifK_f, ifE_t, ifE_f, andK_t, andK_f, orK_t, orK_f, L2.start, List.map_cons, List.map_nil, List.length_cons, List.length_nil, List.replicate_succ, List.replicate_zero, List.cons_append, List.nil_append, List.getElem?_cons_succ, List.getElem?_cons_zero, List.set_cons_succ, List.set_cons_zero, Nat.reduceAdd, Nat.reduceSub, Nat.zero_add, decide_true, decide_false, Bool.not_true, Bool.not_false, if_true, if_false, rEq, rNe, scal_ii, scal_ss, scal_bb, scal_is, scal_si, scal_ns, scal_ni, scal_in, scal_sn, scal_nn, rI, rI0, rU, rIxLH, rIxTH, rLenH, rLenTH, rSetL, rCatN, rTupOfN, rLstOfN, rSlLN, rSlTN, CDiv, CPow, CMul, CDivW, rNeNil, rLenO, rSplitN, rRepN, r_replC, rMulS, r_methK, rRepTN, r_cmK, rCmpO, rInO, r_ixO, r_revL, rInSelf, rCmpA, rBinO, Bool.false_xor, Bool.true_xor, r_starT, r_starL, r_cm, r_cval, selK_t, selK_f, rAppend, rIsK, reduceCtorEq, upd_same, at0, at1, at2, at3, at4, at5, at6, at7, at8, at9, at10, at11, at12, at13, ix3_0, ix3_1, ix3_2, V.int.injEq, V.bl.injEq, V.str.injEq, V.ref.injEq, Option.some.injEq, HO.lst.injEq, HO.tup.injEq, HO.ins.injEq, List.cons.injEq, and_true, true_and, exists_eq_left, exists_eq_left', exists_and_left, exists_eq', exists_eq, and_assoc, N_law_next, hd, hs]
    refine ⟨m0, m0, by omega, ?_⟩
    exact q _ j _ (Int.emod_nonneg _ (by omega)) (Int.emod_lt_of_pos _ m0) (Int.le_refl _) (by omega) Oth.refl.set ⟨c, d / m, upd_same, j0⟩
  · try simp only [cxK, r_lam, r_dnew, r_err, r_base, r_serr, r_var, r_c, r_seq, r_next, r_break, r_cont, r_drop, r_ret, r_retN, r_if, r_ife, r_asg, r_name, r_op, r_un, r_nil, r_cons, r_lst2, r_tup2, r_lc, r_for, r_ilist, r_itup, r_istr, r_irng1, r_irng2, r_ienum, r_ienumS, wipe, r_cb, r_test, r_b, r_not, r_notV, r_andV, r_orV, r_isN, r_notN, r_m1, r_m0, r_fld, sFld, putF, r_par, r_sub, r_gtup, r_gnil, r_gcons, r_sl, r_nopart, r_part, r_bm, r_bm0, r_chain, r_call, r_callK, r_meth, r_prop, r_make, r_and, r_or, andT_t, andT_f, orT_t, orT_f, ifK_t, ifK_f, ifE_t, ifE_f, andK_t, andK_f, orK_t, orK_f, L2.start, List.map_cons, List.map_nil, List.length_cons, List.length_nil, List.replicate_succ, List.replicate_zero, List.cons_append, List.nil_append, List.getElem?_cons_succ, List.getElem?_cons_zero, List.set_cons_succ, List.set_cons_zero, Nat.reduceAdd, Nat.reduceSub, Nat.zero_add, decide_true, decide_false, Bool.not_true, Bool.not_false, if_true, if_false, rEq, rNe, scal_ii, scal_ss, scal_bb, scal_is, scal_si, scal_ns, scal_ni, scal_in, scal_sn, scal_nn, rI, rI0, rU, rIxLH, rIxTH, rLenH, rLenTH, rSetL, rCatN, rTupOfN, rLstOfN, rSlLN, rSlTN, CDiv, CPow, CMul, CDivW, rNeNil, rLenO, rSplitN, rRepN, r_replC, rMulS, r_methK, rRepTN, r_cmK, rCmpO, rInO, r_ixO, r_revL, rInSelf, rCmpA, rBinO, Bool.false_xor, Bool.true_xor, r_starT, r_starL, r_cm, r_cval, selK_t, selK_f, rAppend, rIsK, reduceCtorEq, upd_same, at0, at1, at2, at3, at4, at5, at6, at7, at8, at9, at10, at11, at12, at13, ix3_0, ix3_1, ix3_2, V.int.injEq, V.bl.injEq, V.str.injEq, V.ref.injEq, Option.some.injEq, HO.lst.injEq, HO.tup.injEq, HO.ins.injEq, List.cons.injEq, and_true, true_and, exists_eq_left, exists_eq_left', exists_and_left, exists_eq', exists_eq, and_assoc, N_law_next, hd, hs]
    refine ⟨fits (by decide), fun p H1 n1 => ⟨fits (by decide), fun r H2 n2 => ?_⟩⟩
    have hs2 := n2.old (n1.old (o := _) (b := a) upd_same)
    have hp2 := n2.old n1.at_
    have hr2 := n2.at_
    try simp only [cxK, r_lam, r_dnew, r_err, r_base, r_serr, r_var, r_c, r_seq, r_next, r_break, r_cont, r_drop, r_ret, r_retN, r_if, r_ife, r_asg, r_name, r_op, r_un, r_nil, r_cons, r_lst2, r_tup2, r_lc, r_for, r_ilist, r_itup, r_istr, r_irng1, r_irng2, r_ienum, r_ienumS, wipe, r_cb, r_test, r_b, r_not, r_notV, r_andV, r_orV, r_isN, r_notN, r_m1, r_m0, r_fld, sFld, putF, r_par, r_sub, r_gtup, r_gnil, r_gcons, r_sl, r_nopart, r_part, r_bm, r_bm0, r_chain, r_call, r_callK, r_meth, r_prop, r_make, r_and, r_or, andT_t, andT_f, orT_t, orT_f, ifK_t, ifK_f, ifE_t, ifE_f, andK_t, andK_f, orK_t, orK_f, L2.start, List.map_cons, List.map_nil, List.length_cons, List.length_nil, List.replicate_succ, List.replicate_zero, List.cons_append, List.nil_append, List.getElem?_cons_succ, List.getElem?_cons_zero, List.set_cons_succ, List.set_cons_zero, Nat.reduceAdd, Nat.reduceSub, Nat.zero_add, decide_true, decide_false, Bool.not_true, Bool.not_false, if_true, if_false, rEq, rNe, scal_ii, scal_ss, scal_bb, scal_is, scal_si, scal_ns, scal_ni, scal_in, scal_sn, scal_nn, rI, rI0, rU, rIxLH, rIxTH, rLenH, rLenTH, rSetL, rCatN, rTupOfN, rLstOfN, rSlLN, rSlTN, CDiv, CPow, CMul, CDivW, rNeNil, rLenO, rSplitN, rRepN, r_replC, rMulS, r_methK, rRepTN, r_cmK, rCmpO, rInO, r_ixO, r_revL, rInSelf, rCmpA, rBinO, Bool.false_xor, Bool.true_xor, r_starT, r_starL, r_cm, r_cval, selK_t, selK_f, rAppend, rIsK, reduceCtorEq, upd_same, at0, at1, at2, at3, at4, at5, at6, at7, at8, at9, at10, at11, at12, at13, ix3_0, ix3_1, ix3_2, V.int.injEq, V.bl.injEq, V.str.injEq, V.ref.injEq, Option.some.injEq, HO.lst.injEq, HO.tup.injEq, HO.ins.injEq, List.cons.injEq, and_true, true_and, exists_eq_left, exists_eq_left', exists_and_left, exists_eq', exists_eq, and_assoc, N_law_next, hs2, hp2, hr2]
    refine ⟨fits (by decide), fun t H3 n3 => ?_⟩
    have hs3 := n3.old hs2
    obtain ⟨p, e1, e2, e3⟩ := prime_at ((j + 1) % 11).toNat (by omega)
    have e4 := (atI_nat (xs := ([2147483647, 2147483629, 2147483587, 2147483579, 2147483563, 2147483549, 2147483543, 2147483497, 2147483489, 2147483477, 2147483423] : List Int).map V.int) (j := ((j + 1) % 11).toNat) (v := .int p) (by rw [List.getElem?_map, e1]; rfl))
    have e5 : ((((j + 1) % 11).toNat : Nat) : Int) = (j + 1) % 11 := by omega
    rw [e5] at e4
    simp only [List.map_cons, List.map_nil] at e4
    have ht3 := n3.at_
    try simp only [cxK, r_lam, r_dnew, r_err, r_base, r_serr, r_var, r_c, r_seq, r_next, r_break, r_cont, r_drop, r_ret, r_retN, r_if, r_ife, r_asg, r_name, r_op, r_un, r_nil, r_cons, r_lst2, r_tup2, r_lc, r_for, r_ilist, r_itup, r_istr, r_irng1, r_irng2, r_ienum, r_ienumS, wipe, r_cb, r_test, r_b, r_not, r_notV, r_andV, r_orV, r_isN, r_notN, r_m1, r_m0, r_fld, sFld, putF, r_par, r_sub, r_gtup, r_gnil, r_gcons, r_sl, r_nopart, r_part, r_bm, r_bm0, r_chain, r_call, r_callK, r_meth, r_prop, r_make, r_and, r_or, andT_t, andT_f, orT_t, orT_f, ifK_t, ifK_f, ifE_t, ifE_f, andK_t, andK_f, orK_t, orK_f, L2.start, List.map_cons, List.map_nil, List.length_cons, List.length_nil, List.replicate_succ, List.replicate_zero, List.cons_append, List.nil_append, List.getElem?_cons_succ, List.getElem?_cons_zero, List.set_cons_succ, List.set_cons_zero, Nat.reduceAdd, Nat.reduceSub, Nat.zero_add, decide_true, decide_false, Bool.not_true, Bool.not_false, if_true, if_false, rEq, rNe, scal_ii, scal_ss, scal_bb, scal_is, scal_si, scal_ns, scal_ni, scal_in, scal_sn, scal_nn, rI, rI0, rU, rIxLH, rIxTH, rLenH, rLenTH, rSetL, rCatN, rTupOfN, rLstOfN, rSlLN, rSlTN, CDiv, CPow, CMul, CDivW, rNeNil, rLenO, rSplitN, rRepN, r_replC, rMulS, r_methK, rRepTN, r_cmK, rCmpO, rInO, r_ixO, r_revL, rInSelf, rCmpA, rBinO, Bool.false_xor, Bool.true_xor, r_starT, r_starL, r_cm, r_cval, selK_t, selK_f, rAppend, rIsK, reduceCtorEq, upd_same, at0, at1, at2, at3, at4, at5, at6, at7, at8, at9, at10, at11, at12, at13, ix3_0, ix3_1, ix3_2, V.int.injEq, V.bl.injEq, V.str.injEq, V.ref.injEq, Option.some.injEq, HO.lst.injEq, HO.tup.injEq, HO.ins.injEq, List.cons.injEq, and_true, true_and, exists_eq_left, exists_eq_left', exists_and_left, exists_eq', exists_eq, and_assoc, N_law_next, hs3, ht3, e4]
    refine ⟨by decide, e2, .inl ⟨by decide, by decide⟩, by decide, by decide, ?_, e2, by decide, by decide, m0, ?_⟩
    · have h1 := Int.emod_nonneg c (show p ≠ 0 by omega)
      have h2 := Int.emod_lt_of_pos c e2
      omega
    · refine q _ (j + 1) _ (Int.emod_nonneg _ (by omega)) (Int.emod_lt_of_pos _ m0) (by omega) (by omega) ?_ ⟨c, d, hs3, by omega⟩
      exact Oth.new (Oth.new (Oth.new (Oth.set .refl) n1) n2) n3
def spSource (K : PySem.W.Frag) : Sp := fun vs H Q _ => ∃ (L : Addr) (ns : List Int) (k : Int), vs = [.ref L, .int k] ∧ SqL K H L (ns.map V.int) ∧ 0 ≤ k ∧ k < 1000000 ∧
  ∀ (p : Addr) (H' : Hp), H p = none → Same H H' → Src H' p (3 * k) → Q (.ref p) H'
theorem ok_law_source (T : Tx fa fn K mg) : Fn gd P w K mg base 1 (aG "_law_source" K) [] (spSource K) := by
  obtain ⟨fd, F⟩ := F_law_source T
  refine fn_all F sc_law_source (fun vs H Q E h => ?_) (b_law_source F) (fun cdv A outer s H vs Q E hr h => ⟨_, (pss_cons (ps_set (i := 2) sc_law_source.nd rfl (Or.inl rfl) (pe_ifExp (pt_cmpR (op_neD hr.r.units) (pv 0) (pe_lst pa_nil) (nomark _)) (pe_ix ix_list (pv 0) (pe_op op_mod (pv 1) (pe_callB call_len_seq (by rfl) (T.free (T.c.fact 0 (f := fFree "len") rfl)) (by decide +kernel) (pa_cons (pv 0) pa_nil))) (fun _ _ => rfl)) pe_int))
 (pss_one (ps_ret (pe_lst (pa_cons (pv 2) (pa_cons (pe_op op_mul pe_int (pv 1)) (pa_cons (pe_ifExp (pt_cmpR op_ge (pv 2) (pe_op op_pow pe_int pe_int) (nomark _)) (pe_op op_fdivW (pv 2) (pe_op op_pow pe_int pe_int)) pe_int) pa_nil))))))), ?_⟩)
  · first | (obtain ⟨_, e, _⟩ := h; subst e; rfl) | (obtain ⟨_, _, e, _⟩ := h; subst e; rfl) | (obtain ⟨_, _, _, e, _⟩ := h; subst e; rfl) | (obtain ⟨_, _, _, _, e, _⟩ := h; subst e; rfl) | (obtain ⟨_, _, _, _, _, e, _⟩ := h; subst e; rfl) | (obtain ⟨_, _, _, _, _, _, e, _⟩ := h; subst e; rfl) | (obtain ⟨_, _, _, _, _, _, _, e, _⟩ := h; subst e; rfl) | (obtain ⟨_, _, _, _, _, _, _, _, e, _⟩ := h; subst e; rfl) | (obtain ⟨_, _, _, _, _, _, _, _, _, e, _⟩ := h; subst e; rfl) | (obtain ⟨_, _, _, _, _, _, _, _, _, _, e, _⟩ := h; subst e; rfl) | (obtain ⟨_, _, _, _, _, _, _, _, _, _, _, e, _⟩ := h; subst e; rfl)
  obtain ⟨L, ns, k, rfl, hL, k0, k1, q⟩ := h
  try simp only [cxK, r_lam, r_dnew, r_err, r_base, r_serr, r_var, r_c, r_seq, r_next, r_break, r_cont, r_drop, r_ret, r_retN, r_if, r_ife, r_asg, r_name, r_op, r_un, r_nil, r_cons, r_lst2, r_tup2, r_lc, r_for, r_ilist, r_itup, r_istr, r_irng1, r_irng2, r_ienum, r_ienumS, wipe, r_cb, r_test, r_b, r_not, r_notV, r_andV, r_orV, r_isN, r_notN, r_m1, r_m0, r_fld, sFld, putF, r_par, r_sub, r_gtup, r_gnil, r_gcons, r_sl, r_nopart, r_part, r_bm, r_bm0, r_chain, r_call, r_callK, r_meth, r_prop, r_make, r_and, r_or, andT_t, andT_f, orT_t, orT_f, ifK_t, ifK_f, ifE_t, ifE_f, andK_t, andK_f, orK_t, orK_f, L2.start, List.map_cons, List.map_nil, List.length_cons, List.length_nil, List.replicate_succ, List.replicate_zero, List.cons_append, List.nil_append, List.getElem?_cons_succ, List.getElem?_cons_zero, List.set_cons_succ, List.set_cons_zero, Nat.reduceAdd, Nat.reduceSub, Nat.zero_add, decide_true, decide_false, Bool.not_true, Bool.not_false, if_true, if_false, rEq, rNe, scal_ii, scal_ss, scal_bb, scal_is, scal_si, scal_ns, scal_ni, scal_in, scal_sn, scal_nn, rI, rI0, rU, rIxLH, rIxTH, rLenH, rLenTH, rSetL, rCatN, rTupOfN, rLstOfN, rSlLN, rSlTN, CDiv, CPow, CMul, CDivW, rNeNil, rLenO, rSplitN, rRepN, r_replC, rMulS, r_methK, rRepTN, r_cmK, rCmpO, rInO, r_ixO, r_revL, rInSelf, rCmpA, rBinO, Bool.false_xor, Bool.true_xor, r_starT, r_starL, r_cm, r_cval, selK_t, selK_f, rAppend, rIsK, reduceCtorEq, upd_same, at0, at1, at2, at3, at4, at5, at6, at7, at8, at9, at10, at11, at12, at13, ix3_0, ix3_1, ix3_2, V.int.injEq, V.bl.injEq, V.str.injEq, V.ref.injEq, Option.some.injEq, HO.lst.injEq, HO.tup.injEq, HO.ins.injEq, List.cons.injEq, and_true, true_and, exists_eq_left, exists_eq_left', exists_and_left, exists_eq', exists_eq, and_assoc, N_law_source]
  refine ⟨fits (by decide), fun p H1 n1 => ?_⟩
  have hL1 := n1.same.seq hL
  have hp1 := n1.at_
  have he : ([] : List V) = ([] : List Int).map V.int := rfl
  rw [he] at hp1
  try simp only [cxK, r_lam, r_dnew, r_err, r_base, r_serr, r_var, r_c, r_seq, r_next, r_break, r_cont, r_drop, r_ret, r_retN, r_if, r_ife, r_asg, r_name, r_op, r_un, r_nil, r_cons, r_lst2, r_tup2, r_lc, r_for, r_ilist, r_itup, r_istr, r_irng1, r_irng2, r_ienum, r_ienumS, wipe, r_cb, r_test, r_b, r_not, r_notV, r_andV, r_orV, r_isN, r_notN, r_m1, r_m0, r_fld, sFld, putF, r_par, r_sub, r_gtup, r_gnil, r_gcons, r_sl, r_nopart, r_part, r_bm, r_bm0, r_chain, r_call, r_callK, r_meth, r_prop, r_make, r_and, r_or, andT_t, andT_f, orT_t, orT_f, ifK_t, ifK_f, ifE_t, ifE_f, andK_t, andK_f, orK_t, orK_f, L2.start, List.map_cons, List.map_nil, List.length_cons, List.length_nil, List.replicate_succ, List.replicate_zero, List.cons_append, List.nil_append, List.getElem?_cons_succ, List.getElem?_cons_zero, List.set_cons_succ, List.set_cons_zero, Nat.reduceAdd, Nat.reduceSub, Nat.zero_add, decide_true, decide_false, Bool.not_true, Bool.not_false, if_true, if_false, rEq, rNe, scal_ii, scal_ss, scal_bb, scal_is, scal_si, scal_ns, scal_ni, scal_in, scal_sn, scal_nn, rI, rI0, rU, rIxLH, rIxTH, rLenH, rLenTH, rSetL, rCatN, rTupOfN, rLstOfN, rSlLN, rSlTN, CDiv, CPow, CMul, CDivW, rNeNil, rLenO, rSplitN, rRepN, r_replC, rMulS, r_methK, rRepTN, r_cmK, rCmpO, rInO, r_ixO, r_revL, rInSelf, rCmpA, rBinO, Bool.false_xor, Bool.true_xor, r_starT, r_starL, r_cm, r_cval, selK_t, selK_f, rAppend, rIsK, reduceCtorEq, upd_same, at0, at1, at2, at3, at4, at5, at6, at7, at8, at9, at10, at11, at12, at13, ix3_0, ix3_1, ix3_2, V.int.injEq, V.bl.injEq, V.str.injEq, V.ref.injEq, Option.some.injEq, HO.lst.injEq, HO.tup.injEq, HO.ins.injEq, List.cons.injEq, and_true, true_and, exists_eq_left, exists_eq_left', exists_and_left, exists_eq', exists_eq, and_assoc, N_law_source]
  refine ⟨_, _, .lst hL1 (dp_ints ns), .lst (SqL.of hp1) (dp_ints []), shaped_ints _, shaped_ints _, ?_⟩
  have ev : PyData.eqv (.list (ns.map PyData.int)) (.list []) = decide (ns = []) := eqv_ints ns []
  try simp only [cxK, r_lam, r_dnew, r_err, r_base, r_serr, r_var, r_c, r_seq, r_next, r_break, r_cont, r_drop, r_ret, r_retN, r_if, r_ife, r_asg, r_name, r_op, r_un, r_nil, r_cons, r_lst2, r_tup2, r_lc, r_for, r_ilist, r_itup, r_istr, r_irng1, r_irng2, r_ienum, r_ienumS, wipe, r_cb, r_test, r_b, r_not, r_notV, r_andV, r_orV, r_isN, r_notN, r_m1, r_m0, r_fld, sFld, putF, r_par, r_sub, r_gtup, r_gnil, r_gcons, r_sl, r_nopart, r_part, r_bm, r_bm0, r_chain, r_call, r_callK, r_meth, r_prop, r_make, r_and, r_or, andT_t, andT_f, orT_t, orT_f, ifK_t, ifK_f, ifE_t, ifE_f, andK_t, andK_f, orK_t, orK_f, L2.start, List.map_cons, List.map_nil, List.length_cons, List.length_nil, List.replicate_succ, List.replicate_zero, List.cons_append, List.nil_append, List.getElem?_cons_succ, List.getElem?_cons_zero, List.set_cons_succ, List.set_cons_zero, Nat.reduceAdd, Nat.reduceSub, Nat.zero_add, decide_true, decide_false, Bool.not_true, Bool.not_false, if_true, if_false, rEq, rNe, scal_ii, scal_ss, scal_bb, scal_is, scal_si, scal_ns, scal_ni, scal_in, scal_sn, scal_nn, rI, rI0, rU, rIxLH, rIxTH, rLenH, rLenTH, rSetL, rCatN, rTupOfN, rLstOfN, rSlLN, rSlTN, CDiv, CPow, CMul, CDivW, rNeNil, rLenO, rSplitN, rRepN, r_replC, rMulS, r_methK, rRepTN, r_cmK, rCmpO, rInO, r_ixO, r_revL, rInSelf, rCmpA, rBinO, Bool.false_xor, Bool.true_xor, r_starT, r_starL, r_cm, r_cval, selK_t, selK_f, rAppend, rIsK, reduceCtorEq, upd_same, at0, at1, at2, at3, at4, at5, at6, at7, at8, at9, at10, at11, at12, at13, ix3_0, ix3_1, ix3_2, V.int.injEq, V.bl.injEq, V.str.injEq, V.ref.injEq, Option.some.injEq, HO.lst.injEq, HO.tup.injEq, HO.ins.injEq, List.cons.injEq, and_true, true_and, exists_eq_left, exists_eq_left', exists_and_left, exists_eq', exists_eq, and_assoc, N_law_source, ev]
  have fin : ∀ (c : Int) (H2 : Hp), Same H H2 → (-2 ^ 64 < (3 : Int) ∧ (3 : Int) < 2 ^ 64 ∨ -2 ^ 64 < k ∧ k < 2 ^ 64) ∧ 0 ≤ (18 : Int) ∧ (18 : Int) ≤ 1000000 ∧ Int.natAbs 10 < 2 ^ 64 ∧
      ifE (tOp (rI CDivW fun i j => V.int (i / j)) (tVar 2) (tOp (rI CPow fun i j => V.int (i ^ j.toNat)) (tC (V.int 10)) (tC (V.int 18)))) (tC (V.int 0)) [some (V.ref L), some (V.int k), some (V.int c)]
        (fun x_1 H1 => 3 ≤ sizeLine ∧ ∀ (p : Addr) (H2 : Hp), IsNew H1 p (HO.lst [V.int c, V.int (3 * k), x_1]) H2 → Q (V.ref p) H2) (decide (10 ^ Int.toNat 18 ≤ c)) H2 := by
    intro c H2 sm
    refine ⟨.inl ⟨by decide, by decide⟩, by decide, by decide, by decide, ?_⟩
    have e : (10 : Int) ^ Int.toNat 18 = 1000000000000000000 := by decide
    have last : ∀ (d : Int), 3 ≤ sizeLine ∧ ∀ (p : Addr) (H3 : Hp), IsNew H2 p (HO.lst [V.int c, V.int (3 * k), V.int d]) H3 → Q (V.ref p) H3 := fun d => ⟨fits (by decide), fun p H3 n3 => q p H3 (by
      have z := n3.1
      cases e : H p with
      | none => rfl
      | some o => rw [sm _ _ e] at z; cases z) (same_trans sm n3.same) ⟨c, d, n3.at_, by omega⟩⟩
    by_cases h : (10 : Int) ^ Int.toNat 18 ≤ c
    · try simp only [cxK, r_lam, r_dnew, r_err, r_base, r_serr, r_var, r_c, r_seq, r_next, r_break, r_cont, r_drop, r_ret, r_retN, r_if, r_ife, r_asg, r_name, r_op, r_un, r_nil, r_cons, r_lst2, r_tup2, r_lc, r_for, r_ilist, r_itup, r_istr, r_irng1, r_irng2, r_ienum, r_ienumS, wipe, r_cb, r_test, r_b, r_not, r_notV, r_andV, r_orV, r_isN, r_notN, r_m1, r_m0, r_fld, sFld, putF, r_par, r_sub, r_gtup, r_gnil, r_gcons, r_sl, r_nopart, r_part, r_bm, r_bm0, r_chain, r_call, r_callK, r_meth, r_prop, r_make, r_and, r_or, andT_t, andT_f, orT_t, orT_f, ifK_t, ifK_f, ifE_t, ifE_f, andK_t, andK_f, orK_t, orK_f, L2.start, List.map_cons, List.map_nil, List.length_cons, List.length_nil, List.replicate_succ, List.replicate_zero, List.cons_append, List.nil_append, List.getElem?_cons_succ, List.getElem?_cons_zero, List.set_cons_succ, List.set_cons_zero, Nat.reduceAdd, Nat.reduceSub, Nat.zero_add, decide_true, decide_false, Bool.not_true, Bool.not_false, if_true, if_false, rEq, rNe, scal_ii, scal_ss, scal_bb, scal_is, scal_si, scal_ns, scal_ni, scal_in, scal_sn, scal_nn, rI, rI0, rU, rIxLH, rIxTH, rLenH, rLenTH, rSetL, rCatN, rTupOfN, rLstOfN, rSlLN, rSlTN, CDiv, CPow, CMul, CDivW, rNeNil, rLenO, rSplitN, rRepN, r_replC, rMulS, r_methK, rRepTN, r_cmK, rCmpO, rInO, r_ixO, r_revL, rInSelf, rCmpA, rBinO, Bool.false_xor, Bool.true_xor, r_starT, r_starL, r_cm, r_cval, selK_t, selK_f, rAppend, rIsK, reduceCtorEq, upd_same, at0, at1, at2, at3, at4, at5, at6, at7, at8, at9, at10, at11, at12, at13, ix3_0, ix3_1, ix3_2, V.int.injEq, V.bl.injEq, V.str.injEq, V.ref.injEq, Option.some.injEq, HO.lst.injEq, HO.tup.injEq, HO.ins.injEq, List.cons.injEq, and_true, true_and, exists_eq_left, exists_eq_left', exists_and_left, exists_eq', exists_eq, and_assoc, N_law_source, h]
      refine ⟨by decide, by decide, by decide, by rw [e]; decide, by rw [e]; decide +kernel, last _⟩
    · try simp only [cxK, r_lam, r_dnew, r_err, r_base, r_serr, r_var, r_c, r_seq, r_next, r_break, r_cont, r_drop, r_ret, r_retN, r_if, r_ife, r_asg, r_name, r_op, r_un, r_nil, r_cons, r_lst2, r_tup2, r_lc, r_for, r_ilist, r_itup, r_istr, r_irng1, r_irng2, r_ienum, r_ienumS, wipe, r_cb, r_test, r_b, r_not, r_notV, r_andV, r_orV, r_isN, r_notN, r_m1, r_m0, r_fld, sFld, putF, r_par, r_sub, r_gtup, r_gnil, r_gcons, r_sl, r_nopart, r_part, r_bm, r_bm0, r_chain, r_call, r_callK, r_meth, r_prop, r_make, r_and, r_or, andT_t, andT_f, orT_t, orT_f, ifK_t, ifK_f, ifE_t, ifE_f, andK_t, andK_f, orK_t, orK_f, L2.start, List.map_cons, List.map_nil, List.length_cons, List.length_nil, List.replicate_succ, List.replicate_zero, List.cons_append, List.nil_append, List.getElem?_cons_succ, List.getElem?_cons_zero, List.set_cons_succ, List.set_cons_zero, Nat.reduceAdd, Nat.reduceSub, Nat.zero_add, decide_true, decide_false, Bool.not_true, Bool.not_false, if_true, if_false, rEq, rNe, scal_ii, scal_ss, scal_bb, scal_is, scal_si, scal_ns, scal_ni, scal_in, scal_sn, scal_nn, rI, rI0, rU, rIxLH, rIxTH, rLenH, rLenTH, rSetL, rCatN, rTupOfN, rLstOfN, rSlLN, rSlTN, CDiv, CPow, CMul, CDivW, rNeNil, rLenO, rSplitN, rRepN, r_replC, rMulS, r_methK, rRepTN, r_cmK, rCmpO, rInO, r_ixO, r_revL, rInSelf, rCmpA, rBinO, Bool.false_xor, Bool.true_xor, r_starT, r_starL, r_cm, r_cval, selK_t, selK_f, rAppend, rIsK, reduceCtorEq, upd_same, at0, at1, at2, at3, at4, at5, at6, at7, at8, at9, at10, at11, at12, at13, ix3_0, ix3_1, ix3_2, V.int.injEq, V.bl.injEq, V.str.injEq, V.ref.injEq, Option.some.injEq, HO.lst.injEq, HO.tup.injEq, HO.ins.injEq, List.cons.injEq, and_true, true_and, exists_eq_left, exists_eq_left', exists_and_left, exists_eq', exists_eq, and_assoc, N_law_source, h]
      exact last 0
  by_cases hn : ns = []
  · subst hn
    try simp only [cxK, r_lam, r_dnew, r_err, r_base, r_serr, r_var, r_c, r_seq, r_next, r_break, r_cont, r_drop, r_ret, r_retN, r_if, r_ife, r_asg, r_name, r_op, r_un, r_nil, r_cons, r_lst2, r_tup2, r_lc, r_for, r_ilist, r_itup, r_istr, r_irng1, r_irng2, r_ienum, r_ienumS, wipe, r_cb, r_test, r_b, r_not, r_notV, r_andV, r_orV, r_isN, r_notN, r_m1, r_m0, r_fld, sFld, putF, r_par, r_sub, r_gtup, r_gnil, r_gcons, r_sl, r_nopart, r_part, r_bm, r_bm0, r_chain, r_call, r_callK, r_meth, r_prop, r_make, r_and, r_or, andT_t, andT_f, orT_t, orT_f, ifK_t, ifK_f, ifE_t, ifE_f, andK_t, andK_f, orK_t, orK_f, L2.start, List.map_cons, List.map_nil, List.length_cons, List.length_nil, List.replicate_succ, List.replicate_zero, List.cons_append, List.nil_append, List.getElem?_cons_succ, List.getElem?_cons_zero, List.set_cons_succ, List.set_cons_zero, Nat.reduceAdd, Nat.reduceSub, Nat.zero_add, decide_true, decide_false, Bool.not_true, Bool.not_false, if_true, if_false, rEq, rNe, scal_ii, scal_ss, scal_bb, scal_is, scal_si, scal_ns, scal_ni, scal_in, scal_sn, scal_nn, rI, rI0, rU, rIxLH, rIxTH, rLenH, rLenTH, rSetL, rCatN, rTupOfN, rLstOfN, rSlLN, rSlTN, CDiv, CPow, CMul, CDivW, rNeNil, rLenO, rSplitN, rRepN, r_replC, rMulS, r_methK, rRepTN, r_cmK, rCmpO, rInO, r_ixO, r_revL, rInSelf, rCmpA, rBinO, Bool.false_xor, Bool.true_xor, r_starT, r_starL, r_cm, r_cval, selK_t, selK_f, rAppend, rIsK, reduceCtorEq, upd_same, at0, at1, at2, at3, at4, at5, at6, at7, at8, at9, at10, at11, at12, at13, ix3_0, ix3_1, ix3_2, V.int.injEq, V.bl.injEq, V.str.injEq, V.ref.injEq, Option.some.injEq, HO.lst.injEq, HO.tup.injEq, HO.ins.injEq, List.cons.injEq, and_true, true_and, exists_eq_left, exists_eq_left', exists_and_left, exists_eq', exists_eq, and_assoc, N_law_source]
    exact fin 1 H1 n1.same
  · try simp only [cxK, r_lam, r_dnew, r_err, r_base, r_serr, r_var, r_c, r_seq, r_next, r_break, r_cont, r_drop, r_ret, r_retN, r_if, r_ife, r_asg, r_name, r_op, r_un, r_nil, r_cons, r_lst2, r_tup2, r_lc, r_for, r_ilist, r_itup, r_istr, r_irng1, r_irng2, r_ienum, r_ienumS, wipe, r_cb, r_test, r_b, r_not, r_notV, r_andV, r_orV, r_isN, r_notN, r_m1, r_m0, r_fld, sFld, putF, r_par, r_sub, r_gtup, r_gnil, r_gcons, r_sl, r_nopart, r_part, r_bm, r_bm0, r_chain, r_call, r_callK, r_meth, r_prop, r_make, r_and, r_or, andT_t, andT_f, orT_t, orT_f, ifK_t, ifK_f, ifE_t, ifE_f, andK_t, andK_f, orK_t, orK_f, L2.start, List.map_cons, List.map_nil, List.length_cons, List.length_nil, List.replicate_succ, List.replicate_zero, List.cons_append, List.nil_append, List.getElem?_cons_succ, List.getElem?_cons_zero, List.set_cons_succ, List.set_cons_zero, Nat.reduceAdd, Nat.reduceSub, Nat.zero_add, decide_true, decide_false, Bool.not_true, Bool.not_false, if_true, if_false, rEq, rNe, scal_ii, scal_ss, scal_bb, scal_is, scal_si, scal_ns, scal_ni, scal_in, scal_sn, scal_nn, rI, rI0, rU, rIxLH, rIxTH, rLenH, rLenTH, rSetL, rCatN, rTupOfN, rLstOfN, rSlLN, rSlTN, CDiv, CPow, CMul, CDivW, rNeNil, rLenO, rSplitN, rRepN, r_replC, rMulS, r_methK, rRepTN, r_cmK, rCmpO, rInO, r_ixO, r_revL, rInSelf, rCmpA, rBinO, Bool.false_xor, Bool.true_xor, r_starT, r_starL, r_cm, r_cval, selK_t, selK_f, rAppend, rIsK, reduceCtorEq, upd_same, at0, at1, at2, at3, at4, at5, at6, at7, at8, at9, at10, at11, at12, at13, ix3_0, ix3_1, ix3_2, V.int.injEq, V.bl.injEq, V.str.injEq, V.ref.injEq, Option.some.injEq, HO.lst.injEq, HO.tup.injEq, HO.ins.injEq, List.cons.injEq, and_true, true_and, exists_eq_left, exists_eq_left', exists_and_left, exists_eq', exists_eq, and_assoc, N_law_source, hn]
    have hl : 0 < ns.length := List.length_pos_iff.mpr hn
    refine ⟨_, Or.inl hL1, ?_⟩
    try simp only [cxK, r_lam, r_dnew, r_err, r_base, r_serr, r_var, r_c, r_seq, r_next, r_break, r_cont, r_drop, r_ret, r_retN, r_if, r_ife, r_asg, r_name, r_op, r_un, r_nil, r_cons, r_lst2, r_tup2, r_lc, r_for, r_ilist, r_itup, r_istr, r_irng1, r_irng2, r_ienum, r_ienumS, wipe, r_cb, r_test, r_b, r_not, r_notV, r_andV, r_orV, r_isN, r_notN, r_m1, r_m0, r_fld, sFld, putF, r_par, r_sub, r_gtup, r_gnil, r_gcons, r_sl, r_nopart, r_part, r_bm, r_bm0, r_chain, r_call, r_callK, r_meth, r_prop, r_make, r_and, r_or, andT_t, andT_f, orT_t, orT_f, ifK_t, ifK_f, ifE_t, ifE_f, andK_t, andK_f, orK_t, orK_f, L2.start, List.map_cons, List.map_nil, List.length_cons, List.length_nil, List.replicate_succ, List.replicate_zero, List.cons_append, List.nil_append, List.getElem?_cons_succ, List.getElem?_cons_zero, List.set_cons_succ, List.set_cons_zero, Nat.reduceAdd, Nat.reduceSub, Nat.zero_add, decide_true, decide_false, Bool.not_true, Bool.not_false, if_true, if_false, rEq, rNe, scal_ii, scal_ss, scal_bb, scal_is, scal_si, scal_ns, scal_ni, scal_in, scal_sn, scal_nn, rI, rI0, rU, rIxLH, rIxTH, rLenH, rLenTH, rSetL, rCatN, rTupOfN, rLstOfN, rSlLN, rSlTN, CDiv, CPow, CMul, CDivW, rNeNil, rLenO, rSplitN, rRepN, r_replC, rMulS, r_methK, rRepTN, r_cmK, rCmpO, rInO, r_ixO, r_revL, rInSelf, rCmpA, rBinO, Bool.false_xor, Bool.true_xor, r_starT, r_starL, r_cm, r_cval, selK_t, selK_f, rAppend, rIsK, reduceCtorEq, upd_same, at0, at1, at2, at3, at4, at5, at6, at7, at8, at9, at10, at11, at12, at13, ix3_0, ix3_1, ix3_2, V.int.injEq, V.bl.injEq, V.str.injEq, V.ref.injEq, Option.some.injEq, HO.lst.injEq, HO.tup.injEq, HO.ins.injEq, List.cons.injEq, and_true, true_and, exists_eq_left, exists_eq_left', exists_and_left, exists_eq', exists_eq, and_assoc, N_law_source]
    have hl2 : (List.map V.int ns).length = ns.length := List.length_map ..
    rw [hl2]
    obtain ⟨v, e1, e2⟩ := atI_of (xs := ns.map V.int) (i := k % (ns.length : Int)) (Int.emod_nonneg _ (by omega)) (by rw [hl2]; exact Int.emod_lt_of_pos _ (by omega))
    rw [List.getElem?_map] at e2
    obtain ⟨c, e3, e4⟩ := Option.map_eq_some_iff.mp e2
    subst e4
    refine ⟨by omega, L, _, _, V.int c, rfl, rfl, hL1, e1, ?_⟩
    try simp only [cxK, r_lam, r_dnew, r_err, r_base, r_serr, r_var, r_c, r_seq, r_next, r_break, r_cont, r_drop, r_ret, r_retN, r_if, r_ife, r_asg, r_name, r_op, r_un, r_nil, r_cons, r_lst2, r_tup2, r_lc, r_for, r_ilist, r_itup, r_istr, r_irng1, r_irng2, r_ienum, r_ienumS, wipe, r_cb, r_test, r_b, r_not, r_notV, r_andV, r_orV, r_isN, r_notN, r_m1, r_m0, r_fld, sFld, putF, r_par, r_sub, r_gtup, r_gnil, r_gcons, r_sl, r_nopart, r_part, r_bm, r_bm0, r_chain, r_call, r_callK, r_meth, r_prop, r_make, r_and, r_or, andT_t, andT_f, orT_t, orT_f, ifK_t, ifK_f, ifE_t, ifE_f, andK_t, andK_f, orK_t, orK_f, L2.start, List.map_cons, List.map_nil, List.length_cons, List.length_nil, List.replicate_succ, List.replicate_zero, List.cons_append, List.nil_append, List.getElem?_cons_succ, List.getElem?_cons_zero, List.set_cons_succ, List.set_cons_zero, Nat.reduceAdd, Nat.reduceSub, Nat.zero_add, decide_true, decide_false, Bool.not_true, Bool.not_false, if_true, if_false, rEq, rNe, scal_ii, scal_ss, scal_bb, scal_is, scal_si, scal_ns, scal_ni, scal_in, scal_sn, scal_nn, rI, rI0, rU, rIxLH, rIxTH, rLenH, rLenTH, rSetL, rCatN, rTupOfN, rLstOfN, rSlLN, rSlTN, CDiv, CPow, CMul, CDivW, rNeNil, rLenO, rSplitN, rRepN, r_replC, rMulS, r_methK, rRepTN, r_cmK, rCmpO, rInO, r_ixO, r_revL, rInSelf, rCmpA, rBinO, Bool.false_xor, Bool.true_xor, r_starT, r_starL, r_cm, r_cval, selK_t, selK_f, rAppend, rIsK, reduceCtorEq, upd_same, at0, at1, at2, at3, at4, at5, at6, at7, at8, at9, at10, at11, at12, at13, ix3_0, ix3_1, ix3_2, V.int.injEq, V.bl.injEq, V.str.injEq, V.ref.injEq, Option.some.injEq, HO.lst.injEq, HO.tup.injEq, HO.ins.injEq, List.cons.injEq, and_true, true_and, exists_eq_left, exists_eq_left', exists_and_left, exists_eq', exists_eq, and_assoc, N_law_source]
    exact fin c H1 n1.same
/-- an item of a list -/
def spPick : Sp := fun vs H Q _ => ∃ (a l : Addr) (j : Int) (xs : List V), vs = [.ref a, .ref l] ∧ l ≠ a ∧ H l = some (.lst xs) ∧ 0 < xs.length ∧ xs.length < 500000000 ∧ Src H a j ∧ j < 1099511627776 ∧
  ∀ (i : Nat) (v : V) (j' : Int) (H' : Hp), xs[i]? = some v → j ≤ j' → j' ≤ j + 1 → Oth a H H' → Src H' a j' → Q v H'
theorem ok_law_pick (T : Tx fa fn K mg) : Fn gd P w K mg base 2 (aG "_law_pick" K) [] spPick := by
  obtain ⟨fd, F⟩ := F_law_pick T
  refine fn_all F sc_law_pick (fun vs H Q E h => ?_) (b_law_pick F) (fun cdv A outer s H vs Q E hr h => ⟨_, (pss_one (ps_ret (pe_ix ix_lh (pv 1) (pe_fn (ok_law_next T) (hr.mono (by decide)) rfl (g_law_next T) (k_law_next T) passD (pa_cons (pv 0) (pa_cons (pe_callB call_len_lh (by rfl) (T.free (T.c.fact 0 (f := fFree "len") rfl)) (by decide +kernel) (pa_cons (pv 1) pa_nil)) pa_nil))) (fun _ _ => rfl)))), ?_⟩)
  · first | (obtain ⟨_, e, _⟩ := h; subst e; rfl) | (obtain ⟨_, _, e, _⟩ := h; subst e; rfl) | (obtain ⟨_, _, _, e, _⟩ := h; subst e; rfl) | (obtain ⟨_, _, _, _, e, _⟩ := h; subst e; rfl) | (obtain ⟨_, _, _, _, _, e, _⟩ := h; subst e; rfl) | (obtain ⟨_, _, _, _, _, _, e, _⟩ := h; subst e; rfl) | (obtain ⟨_, _, _, _, _, _, _, e, _⟩ := h; subst e; rfl) | (obtain ⟨_, _, _, _, _, _, _, _, e, _⟩ := h; subst e; rfl) | (obtain ⟨_, _, _, _, _, _, _, _, _, e, _⟩ := h; subst e; rfl) | (obtain ⟨_, _, _, _, _, _, _, _, _, _, e, _⟩ := h; subst e; rfl) | (obtain ⟨_, _, _, _, _, _, _, _, _, _, _, e, _⟩ := h; subst e; rfl)
  obtain ⟨a, l, j, xs, rfl, la, hl, x0, x1, hs, j1, q⟩ := h
  try simp only [cxK, r_lam, r_dnew, r_err, r_base, r_serr, r_var, r_c, r_seq, r_next, r_break, r_cont, r_drop, r_ret, r_retN, r_if, r_ife, r_asg, r_name, r_op, r_un, r_nil, r_cons, r_lst2, r_tup2, r_lc, r_for, r_ilist, r_itup, r_istr, r_irng1, r_irng2, r_ienum, r_ienumS, wipe, r_cb, r_test, r_b, r_not, r_notV, r_andV, r_orV, r_isN, r_notN, r_m1, r_m0, r_fld, sFld, putF, r_par, r_sub, r_gtup, r_gnil, r_gcons, r_sl, r_nopart, r_part, r_bm, r_bm0, r_chain, r_call, r_callK, r_meth, r_prop, r_make, r_and, r_or, andT_t, andT_f, orT_t, orT_f, ifK_t, ifK_f, ifE_t, ifE_f, andK_t, andK_f, orK_t, orK_f, L2.start, List.map_cons, List.map_nil, List.length_cons, List.length_nil, List.replicate_succ, List.replicate_zero, List.cons_append, List.nil_append, List.getElem?_cons_succ, List.getElem?_cons_zero, List.set_cons_succ, List.set_cons_zero, Nat.reduceAdd, Nat.reduceSub, Nat.zero_add, decide_true, decide_false, Bool.not_true, Bool.not_false, if_true, if_false, rEq, rNe, scal_ii, scal_ss, scal_bb, scal_is, scal_si, scal_ns, scal_ni, scal_in, scal_sn, scal_nn, rI, rI0, rU, rIxLH, rIxTH, rLenH, rLenTH, rSetL, rCatN, rTupOfN, rLstOfN, rSlLN, rSlTN, CDiv, CPow, CMul, CDivW, rNeNil, rLenO, rSplitN, rRepN, r_replC, rMulS, r_methK, rRepTN, r_cmK, rCmpO, rInO, r_ixO, r_revL, rInSelf, rCmpA, rBinO, Bool.false_xor, Bool.true_xor, r_starT, r_starL, r_cm, r_cval, selK_t, selK_f, rAppend, rIsK, reduceCtorEq, upd_same, at0, at1, at2, at3, at4, at5, at6, at7, at8, at9, at10, at11, at12, at13, ix3_0, ix3_1, ix3_2, V.int.injEq, V.bl.injEq, V.str.injEq, V.ref.injEq, Option.some.injEq, HO.lst.injEq, HO.tup.injEq, HO.ins.injEq, List.cons.injEq, and_true, true_and, exists_eq_left, exists_eq_left', exists_and_left, exists_eq', exists_eq, and_assoc, N_law_pick, hl]
  refine ⟨a, xs.length, j, rfl, by omega, by omega, hs, j1, fun r j' H' r0 r1 j2 j3 ho hs' => ?_⟩
  have hl' := ho l _ la hl
  try simp only [cxK, r_lam, r_dnew, r_err, r_base, r_serr, r_var, r_c, r_seq, r_next, r_break, r_cont, r_drop, r_ret, r_retN, r_if, r_ife, r_asg, r_name, r_op, r_un, r_nil, r_cons, r_lst2, r_tup2, r_lc, r_for, r_ilist, r_itup, r_istr, r_irng1, r_irng2, r_ienum, r_ienumS, wipe, r_cb, r_test, r_b, r_not, r_notV, r_andV, r_orV, r_isN, r_notN, r_m1, r_m0, r_fld, sFld, putF, r_par, r_sub, r_gtup, r_gnil, r_gcons, r_sl, r_nopart, r_part, r_bm, r_bm0, r_chain, r_call, r_callK, r_meth, r_prop, r_make, r_and, r_or, andT_t, andT_f, orT_t, orT_f, ifK_t, ifK_f, ifE_t, ifE_f, andK_t, andK_f, orK_t, orK_f, L2.start, List.map_cons, List.map_nil, List.length_cons, List.length_nil, List.replicate_succ, List.replicate_zero, List.cons_append, List.nil_append, List.getElem?_cons_succ, List.getElem?_cons_zero, List.set_cons_succ, List.set_cons_zero, Nat.reduceAdd, Nat.reduceSub, Nat.zero_add, decide_true, decide_false, Bool.not_true, Bool.not_false, if_true, if_false, rEq, rNe, scal_ii, scal_ss, scal_bb, scal_is, scal_si, scal_ns, scal_ni, scal_in, scal_sn, scal_nn, rI, rI0, rU, rIxLH, rIxTH, rLenH, rLenTH, rSetL, rCatN, rTupOfN, rLstOfN, rSlLN, rSlTN, CDiv, CPow, CMul, CDivW, rNeNil, rLenO, rSplitN, rRepN, r_replC, rMulS, r_methK, rRepTN, r_cmK, rCmpO, rInO, r_ixO, r_revL, rInSelf, rCmpA, rBinO, Bool.false_xor, Bool.true_xor, r_starT, r_starL, r_cm, r_cval, selK_t, selK_f, rAppend, rIsK, reduceCtorEq, upd_same, at0, at1, at2, at3, at4, at5, at6, at7, at8, at9, at10, at11, at12, at13, ix3_0, ix3_1, ix3_2, V.int.injEq, V.bl.injEq, V.str.injEq, V.ref.injEq, Option.some.injEq, HO.lst.injEq, HO.tup.injEq, HO.ins.injEq, List.cons.injEq, and_true, true_and, exists_eq_left, exists_eq_left', exists_and_left, exists_eq', exists_eq, and_assoc, N_law_pick, hl']
  obtain ⟨v, e1, e2⟩ := atI_of r0 r1
  exact ⟨v, e1, q _ v j' H' e2 j2 j3 ho hs'⟩
def spPickS : Sp := fun vs H Q _ => ∃ (a : Addr) (z : Str) (j : Int), vs = [.ref a, .str z] ∧ 0 < z.cps.size ∧ z.cps.size < 16000000 ∧ Src H a j ∧ j < 1099511627776 ∧
  ∀ (c : Nat) (j' : Int) (H' : Hp), c ∈ z.cps.toList → j ≤ j' → j' ≤ j + 1 → Oth a H H' → Src H' a j' → Q (.str ⟨#[c]⟩) H'
theorem ok_law_pickS (T : Tx fa fn K mg) : Fn gd P w K mg base 2 (aG "_law_pick" K) [] spPickS := by
  obtain ⟨fd, F⟩ := F_law_pick T
  refine fn_all F sc_law_pick (fun vs H Q E h => ?_) (b_law_pick F) (fun cdv A outer s H vs Q E hr h => ⟨_, (pss_one (ps_ret (pe_ix ix_str (pv 1) (pe_fn (ok_law_next T) (hr.mono (by decide)) rfl (g_law_next T) (k_law_next T) passD (pa_cons (pv 0) (pa_cons (pe_callB call_len_str (by rfl) (T.free (T.c.fact 0 (f := fFree "len") rfl)) (by decide +kernel) (pa_cons (pv 1) pa_nil)) pa_nil))) (fun _ _ => rfl)))), ?_⟩)
  · first | (obtain ⟨_, e, _⟩ := h; subst e; rfl) | (obtain ⟨_, _, e, _⟩ := h; subst e; rfl) | (obtain ⟨_, _, _, e, _⟩ := h; subst e; rfl) | (obtain ⟨_, _, _, _, e, _⟩ := h; subst e; rfl) | (obtain ⟨_, _, _, _, _, e, _⟩ := h; subst e; rfl) | (obtain ⟨_, _, _, _, _, _, e, _⟩ := h; subst e; rfl) | (obtain ⟨_, _, _, _, _, _, _, e, _⟩ := h; subst e; rfl) | (obtain ⟨_, _, _, _, _, _, _, _, e, _⟩ := h; subst e; rfl) | (obtain ⟨_, _, _, _, _, _, _, _, _, e, _⟩ := h; subst e; rfl) | (obtain ⟨_, _, _, _, _, _, _, _, _, _, e, _⟩ := h; subst e; rfl) | (obtain ⟨_, _, _, _, _, _, _, _, _, _, _, e, _⟩ := h; subst e; rfl)
  obtain ⟨a, z, j, rfl, z0, z1, hs, j1, q⟩ := h
  try simp only [cxK, r_lam, r_dnew, r_err, r_base, r_serr, r_var, r_c, r_seq, r_next, r_break, r_cont, r_drop, r_ret, r_retN, r_if, r_ife, r_asg, r_name, r_op, r_un, r_nil, r_cons, r_lst2, r_tup2, r_lc, r_for, r_ilist, r_itup, r_istr, r_irng1, r_irng2, r_ienum, r_ienumS, wipe, r_cb, r_test, r_b, r_not, r_notV, r_andV, r_orV, r_isN, r_notN, r_m1, r_m0, r_fld, sFld, putF, r_par, r_sub, r_gtup, r_gnil, r_gcons, r_sl, r_nopart, r_part, r_bm, r_bm0, r_chain, r_call, r_callK, r_meth, r_prop, r_make, r_and, r_or, andT_t, andT_f, orT_t, orT_f, ifK_t, ifK_f, ifE_t, ifE_f, andK_t, andK_f, orK_t, orK_f, L2.start, List.map_cons, List.map_nil, List.length_cons, List.length_nil, List.replicate_succ, List.replicate_zero, List.cons_append, List.nil_append, List.getElem?_cons_succ, List.getElem?_cons_zero, List.set_cons_succ, List.set_cons_zero, Nat.reduceAdd, Nat.reduceSub, Nat.zero_add, decide_true, decide_false, Bool.not_true, Bool.not_false, if_true, if_false, rEq, rNe, scal_ii, scal_ss, scal_bb, scal_is, scal_si, scal_ns, scal_ni, scal_in, scal_sn, scal_nn, rI, rI0, rU, rIxLH, rIxTH, rLenH, rLenTH, rSetL, rCatN, rTupOfN, rLstOfN, rSlLN, rSlTN, CDiv, CPow, CMul, CDivW, rNeNil, rLenO, rSplitN, rRepN, r_replC, rMulS, r_methK, rRepTN, r_cmK, rCmpO, rInO, r_ixO, r_revL, rInSelf, rCmpA, rBinO, Bool.false_xor, Bool.true_xor, r_starT, r_starL, r_cm, r_cval, selK_t, selK_f, rAppend, rIsK, reduceCtorEq, upd_same, at0, at1, at2, at3, at4, at5, at6, at7, at8, at9, at10, at11, at12, at13, ix3_0, ix3_1, ix3_2, V.int.injEq, V.bl.injEq, V.str.injEq, V.ref.injEq, Option.some.injEq, HO.lst.injEq, HO.tup.injEq, HO.ins.injEq, List.cons.injEq, and_true, true_and, exists_eq_left, exists_eq_left', exists_and_left, exists_eq', exists_eq, and_assoc, N_law_pick]
  have hz : z.length = z.cps.size := rfl
  refine ⟨fits (by rw [hz]; omega), a, z.length, j, rfl, by rw [hz]; omega, by rw [hz]; omega, hs, j1, fun r j' H' r0 r1 j2 j3 ho hs' => ?_⟩
  have hr : r < (z.cps.toList.length : Int) := by simpa [hz] using r1
  obtain ⟨c, e1, e2⟩ := atI_of r0 hr
  exact ⟨z, r, c, rfl, rfl, fits (by rw [hz]; omega), e1, q c j' H' (List.mem_of_getElem? e2) j2 j3 ho hs'⟩

end

section
variable {gd : Bool} {P : Program} {w : World} {K : PySem.W.Frag} {mg : Str → Option Value} {base : Heap}

theorem ox_BadName (T : Tx fa fn K mg) : OxF famV K (ga K "BadName") (ma K (ga K "BadName") "__init__") "reason" := ox_ok (T.c.fact 1 (f := fOx famV "BadName" "reason") rfl)
theorem ok_BadName_init (T : Tx fa fn K mg) : Fn gd P w K mg base 1 (aM "BadName" "__init__" K) [] (spErr (ga K "BadName") "reason") := by
  obtain ⟨fd, F⟩ := F_BadName_init T
  have bs := base_ok (T.c.fact 2 (f := fBase "Invalid" "__init__" famV.initId) rfl)
  refine fn_all F sc_BadName_init (fun vs H Q E h => ?_) (b_BadName_init F) (fun cdv A outer s H vs Q E hr h => ⟨_, pss_cons (ps_expr (pe_base (fm := famV) rfl (T.glo (T.c.fact 3 (f := fGlo "Invalid") rfl)) bs.1 bs.2.1 bs.2.2 (pa_cons (pv 0) (pa_cons pe_str pa_nil)))) (pss_one (ps_err (fm := famV) (pv 0) (pv 1))), ?_⟩)
  · obtain ⟨_, _, e, _⟩ := h; subst e; rfl
  obtain ⟨a, v, rfl, ha, q⟩ := h
  try simp only [cxK, r_lam, r_dnew, r_err, r_base, r_serr, r_var, r_c, r_seq, r_next, r_break, r_cont, r_drop, r_ret, r_retN, r_if, r_ife, r_asg, r_name, r_op, r_un, r_nil, r_cons, r_lst2, r_tup2, r_lc, r_for, r_ilist, r_itup, r_istr, r_irng1, r_irng2, r_ienum, r_ienumS, wipe, r_cb, r_test, r_b, r_not, r_notV, r_andV, r_orV, r_isN, r_notN, r_m1, r_m0, r_fld, sFld, putF, r_par, r_sub, r_gtup, r_gnil, r_gcons, r_sl, r_nopart, r_part, r_bm, r_bm0, r_chain, r_call, r_callK, r_meth, r_prop, r_make, r_and, r_or, andT_t, andT_f, orT_t, orT_f, ifK_t, ifK_f, ifE_t, ifE_f, andK_t, andK_f, orK_t, orK_f, L2.start, List.map_cons, List.map_nil, List.length_cons, List.length_nil, List.replicate_succ, List.replicate_zero, List.cons_append, List.nil_append, List.getElem?_cons_succ, List.getElem?_cons_zero, List.set_cons_succ, List.set_cons_zero, Nat.reduceAdd, Nat.reduceSub, Nat.zero_add, decide_true, decide_false, Bool.not_true, Bool.not_false, if_true, if_false, rEq, rNe, scal_ii, scal_ss, scal_bb, scal_is, scal_si, scal_ns, scal_ni, scal_in, scal_sn, scal_nn, rI, rI0, rU, rIxLH, rIxTH, rLenH, rLenTH, rSetL, rCatN, rTupOfN, rLstOfN, rSlLN, rSlTN, CDiv, CPow, CMul, CDivW, rNeNil, rLenO, rSplitN, rRepN, r_replC, rMulS, r_methK, rRepTN, r_cmK, rCmpO, rInO, r_ixO, r_revL, rInSelf, rCmpA, rBinO, Bool.false_xor, Bool.true_xor, r_starT, r_starL, r_cm, r_cval, selK_t, selK_f, rAppend, rIsK, reduceCtorEq, upd_same, at0, at1, at2, at3, at4, at5, at6, at7, at8, at9, at10, at11, at12, at13, ix3_0, ix3_1, ix3_2, V.int.injEq, V.bl.injEq, V.str.injEq, V.ref.injEq, Option.some.injEq, HO.lst.injEq, HO.tup.injEq, HO.ins.injEq, List.cons.injEq, and_true, true_and, exists_eq_left, exists_eq_left', exists_and_left, exists_eq', exists_eq, and_assoc, N_BadName_init]
  exact ⟨_, ha, (ox_BadName T).c, by simp, _, ha, (ox_BadName T).c, (ox_BadName T).no, q⟩
theorem ox_BadPath (T : Tx fa fn K mg) : OxF famV K (ga K "BadPath") (ma K (ga K "BadPath") "__init__") "reason" := ox_ok (T.c.fact 4 (f := fOx famV "BadPath" "reason") rfl)
theorem ok_BadPath_init (T : Tx fa fn K mg) : Fn gd P w K mg base 1 (aM "BadPath" "__init__" K) [] (spErr (ga K "BadPath") "reason") := by
  obtain ⟨fd, F⟩ := F_BadPath_init T
  have bs := base_ok (T.c.fact 2 (f := fBase "Invalid" "__init__" famV.initId) rfl)
  refine fn_all F sc_BadPath_init (fun vs H Q E h => ?_) (b_BadPath_init F) (fun cdv A outer s H vs Q E hr h => ⟨_, pss_cons (ps_expr (pe_base (fm := famV) rfl (T.glo (T.c.fact 3 (f := fGlo "Invalid") rfl)) bs.1 bs.2.1 bs.2.2 (pa_cons (pv 0) (pa_cons pe_str pa_nil)))) (pss_one (ps_err (fm := famV) (pv 0) (pv 1))), ?_⟩)
  · obtain ⟨_, _, e, _⟩ := h; subst e; rfl
  obtain ⟨a, v, rfl, ha, q⟩ := h
  try simp only [cxK, r_lam, r_dnew, r_err, r_base, r_serr, r_var, r_c, r_seq, r_next, r_break, r_cont, r_drop, r_ret, r_retN, r_if, r_ife, r_asg, r_name, r_op, r_un, r_nil, r_cons, r_lst2, r_tup2, r_lc, r_for, r_ilist, r_itup, r_istr, r_irng1, r_irng2, r_ienum, r_ienumS, wipe, r_cb, r_test, r_b, r_not, r_notV, r_andV, r_orV, r_isN, r_notN, r_m1, r_m0, r_fld, sFld, putF, r_par, r_sub, r_gtup, r_gnil, r_gcons, r_sl, r_nopart, r_part, r_bm, r_bm0, r_chain, r_call, r_callK, r_meth, r_prop, r_make, r_and, r_or, andT_t, andT_f, orT_t, orT_f, ifK_t, ifK_f, ifE_t, ifE_f, andK_t, andK_f, orK_t, orK_f, L2.start, List.map_cons, List.map_nil, List.length_cons, List.length_nil, List.replicate_succ, List.replicate_zero, List.cons_append, List.nil_append, List.getElem?_cons_succ, List.getElem?_cons_zero, List.set_cons_succ, List.set_cons_zero, Nat.reduceAdd, Nat.reduceSub, Nat.zero_add, decide_true, decide_false, Bool.not_true, Bool.not_false, if_true, if_false, rEq, rNe, scal_ii, scal_ss, scal_bb, scal_is, scal_si, scal_ns, scal_ni, scal_in, scal_sn, scal_nn, rI, rI0, rU, rIxLH, rIxTH, rLenH, rLenTH, rSetL, rCatN, rTupOfN, rLstOfN, rSlLN, rSlTN, CDiv, CPow, CMul, CDivW, rNeNil, rLenO, rSplitN, rRepN, r_replC, rMulS, r_methK, rRepTN, r_cmK, rCmpO, rInO, r_ixO, r_revL, rInSelf, rCmpA, rBinO, Bool.false_xor, Bool.true_xor, r_starT, r_starL, r_cm, r_cval, selK_t, selK_f, rAppend, rIsK, reduceCtorEq, upd_same, at0, at1, at2, at3, at4, at5, at6, at7, at8, at9, at10, at11, at12, at13, ix3_0, ix3_1, ix3_2, V.int.injEq, V.bl.injEq, V.str.injEq, V.ref.injEq, Option.some.injEq, HO.lst.injEq, HO.tup.injEq, HO.ins.injEq, List.cons.injEq, and_true, true_and, exists_eq_left, exists_eq_left', exists_and_left, exists_eq', exists_eq, and_assoc, N_BadPath_init]
  exact ⟨_, ha, (ox_BadPath T).c, by simp, _, ha, (ox_BadPath T).c, (ox_BadPath T).no, q⟩
theorem ox_BadNumber (T : Tx fa fn K mg) : OxF famV K (ga K "BadNumber") (ma K (ga K "BadNumber") "__init__") "reason" := ox_ok (T.c.fact 5 (f := fOx famV "BadNumber" "reason") rfl)
theorem ok_BadNumber_init (T : Tx fa fn K mg) : Fn gd P w K mg base 1 (aM "BadNumber" "__init__" K) [] (spErr (ga K "BadNumber") "reason") := by
  obtain ⟨fd, F⟩ := F_BadNumber_init T
  have bs := base_ok (T.c.fact 2 (f := fBase "Invalid" "__init__" famV.initId) rfl)
  refine fn_all F sc_BadNumber_init (fun vs H Q E h => ?_) (b_BadNumber_init F) (fun cdv A outer s H vs Q E hr h => ⟨_, pss_cons (ps_expr (pe_base (fm := famV) rfl (T.glo (T.c.fact 3 (f := fGlo "Invalid") rfl)) bs.1 bs.2.1 bs.2.2 (pa_cons (pv 0) (pa_cons pe_str pa_nil)))) (pss_one (ps_err (fm := famV) (pv 0) (pv 1))), ?_⟩)
  · obtain ⟨_, _, e, _⟩ := h; subst e; rfl
  obtain ⟨a, v, rfl, ha, q⟩ := h
  try simp only [cxK, r_lam, r_dnew, r_err, r_base, r_serr, r_var, r_c, r_seq, r_next, r_break, r_cont, r_drop, r_ret, r_retN, r_if, r_ife, r_asg, r_name, r_op, r_un, r_nil, r_cons, r_lst2, r_tup2, r_lc, r_for, r_ilist, r_itup, r_istr, r_irng1, r_irng2, r_ienum, r_ienumS, wipe, r_cb, r_test, r_b, r_not, r_notV, r_andV, r_orV, r_isN, r_notN, r_m1, r_m0, r_fld, sFld, putF, r_par, r_sub, r_gtup, r_gnil, r_gcons, r_sl, r_nopart, r_part, r_bm, r_bm0, r_chain, r_call, r_callK, r_meth, r_prop, r_make, r_and, r_or, andT_t, andT_f, orT_t, orT_f, ifK_t, ifK_f, ifE_t, ifE_f, andK_t, andK_f, orK_t, orK_f, L2.start, List.map_cons, List.map_nil, List.length_cons, List.length_nil, List.replicate_succ, List.replicate_zero, List.cons_append, List.nil_append, List.getElem?_cons_succ, List.getElem?_cons_zero, List.set_cons_succ, List.set_cons_zero, Nat.reduceAdd, Nat.reduceSub, Nat.zero_add, decide_true, decide_false, Bool.not_true, Bool.not_false, if_true, if_false, rEq, rNe, scal_ii, scal_ss, scal_bb, scal_is, scal_si, scal_ns, scal_ni, scal_in, scal_sn, scal_nn, rI, rI0, rU, rIxLH, rIxTH, rLenH, rLenTH, rSetL, rCatN, rTupOfN, rLstOfN, rSlLN, rSlTN, CDiv, CPow, CMul, CDivW, rNeNil, rLenO, rSplitN, rRepN, r_replC, rMulS, r_methK, rRepTN, r_cmK, rCmpO, rInO, r_ixO, r_revL, rInSelf, rCmpA, rBinO, Bool.false_xor, Bool.true_xor, r_starT, r_starL, r_cm, r_cval, selK_t, selK_f, rAppend, rIsK, reduceCtorEq, upd_same, at0, at1, at2, at3, at4, at5, at6, at7, at8, at9, at10, at11, at12, at13, ix3_0, ix3_1, ix3_2, V.int.injEq, V.bl.injEq, V.str.injEq, V.ref.injEq, Option.some.injEq, HO.lst.injEq, HO.tup.injEq, HO.ins.injEq, List.cons.injEq, and_true, true_and, exists_eq_left, exists_eq_left', exists_and_left, exists_eq', exists_eq, and_assoc, N_BadNumber_init]
  exact ⟨_, ha, (ox_BadNumber T).c, by simp, _, ha, (ox_BadNumber T).c, (ox_BadNumber T).no, q⟩

end

section
variable {gd : Bool} {P : Program} {w : World} {K : PySem.W.Frag} {mg : Str → Option Value} {base : Heap}

/-- a good name -/
def isNm (z : Str) : Bool := (decide (1 ≤ z.length) && decide (z.length ≤ 12)) && (!(z == pt1 || z == pt2)) && z.cps.toList.all fun c => decide (c ∈ sgns)
def spIsName : Sp := fun vs H Q _ => ∃ z : Str, vs = [.str z] ∧ z.cps.size ≤ 16000000 ∧ ∀ H', Same H H' → Q (.bl (isNm z)) H'
theorem ok_is_name (T : Tx fa fn K mg) : Fn gd P w K mg base 1 (aG "is_name" K) [] spIsName := by
  obtain ⟨fd, F⟩ := F_is_name T
  refine fn_all F sc_is_name (fun vs H Q E h => ?_) (b_is_name F) (fun cdv A outer s H vs Q E hr h => ⟨_, (pss_cons (ps_if (PW.pt (pw_or (pt_not (pt_val (pe_callB call_isi (by rfl) (T.free (T.c.fact 9 (f := fFree "isinstance") rfl)) (by decide +kernel) (pa_cons (pv 0) (pa_cons (pe_bltn (v := .ty "str") (by rfl) (T.free (T.c.fact 10 (f := fFree "str") rfl)) (by decide +kernel) rfl) pa_nil))))) (pw_or (pt_not (pt_chain op_le op_le pe_int (pe_callB call_len_str (by rfl) (T.free (T.c.fact 0 (f := fFree "len") rfl)) (by decide +kernel) (pa_cons (pv 0) pa_nil)) (pe_gint rfl (T.int (T.c.fact 8 (f := fInt "MAX_NAME" (12)) rfl))))) (pw_or1 (pt_cmpR op_in_seq (pv 0) (pe_tup (pa_cons pe_str (pa_cons pe_str pa_nil))) rfl)))))
 (pss_one (ps_ret pe_bl))
 pss_nil)
 (pss_one (ps_ret (pe_callB (cr_all rfl) (by rfl) (T.free (T.c.fact 6 (f := fFree "all") rfl)) (by decide +kernel) (pa_cons (pe_lc (own := [("sign", 1)]) (g := gName 1) (tt := tYes) rfl sc_is_name.nd (pi_str (pv 0)) (blkOk_by (own := [("sign", 1)]) (N := N_is_name) (sc := defScope s_is_name) (by decide +kernel)) (fun _ _ _ _ _ => (pg_name (i := 1) sc_is_name.nd rfl (Or.inl rfl))) (fun _ _ _ _ _ => pts_nil) (fun _ _ _ _ _ => (pe_cmpR op_in_sign (pv 1) (pe_gstr rfl (T.str (T.c.fact 7 (f := fStr "NAME_SIGNS" "abcdefghijklmnopqrstuvwxyz0123456789_-.") rfl))) rfl))) pa_nil))))), ?_⟩)
  · first | (obtain ⟨_, e, _⟩ := h; subst e; rfl) | (obtain ⟨_, _, e, _⟩ := h; subst e; rfl) | (obtain ⟨_, _, _, e, _⟩ := h; subst e; rfl) | (obtain ⟨_, _, _, _, e, _⟩ := h; subst e; rfl) | (obtain ⟨_, _, _, _, _, e, _⟩ := h; subst e; rfl) | (obtain ⟨_, _, _, _, _, _, e, _⟩ := h; subst e; rfl) | (obtain ⟨_, _, _, _, _, _, _, e, _⟩ := h; subst e; rfl) | (obtain ⟨_, _, _, _, _, _, _, _, e, _⟩ := h; subst e; rfl) | (obtain ⟨_, _, _, _, _, _, _, _, _, e, _⟩ := h; subst e; rfl) | (obtain ⟨_, _, _, _, _, _, _, _, _, _, e, _⟩ := h; subst e; rfl) | (obtain ⟨_, _, _, _, _, _, _, _, _, _, _, e, _⟩ := h; subst e; rfl)
  obtain ⟨z, rfl, hz, q⟩ := h
  try simp only [cxK, r_lam, r_dnew, r_err, r_base, r_serr, r_var, r_c, r_seq, r_next, r_break, r_cont, r_drop, r_ret, r_retN, r_if, r_ife, r_asg, r_name, r_op, r_un, r_nil, r_cons, r_lst2, r_tup2, r_lc, r_for, r_ilist, r_itup, r_istr, r_irng1, r_irng2, r_ienum, r_ienumS, wipe, r_cb, r_test, r_b, r_not, r_notV, r_andV, r_orV, r_isN, r_notN, r_m1, r_m0, r_fld, sFld, putF, r_par, r_sub, r_gtup, r_gnil, r_gcons, r_sl, r_nopart, r_part, r_bm, r_bm0, r_chain, r_call, r_callK, r_meth, r_prop, r_make, r_and, r_or, andT_t, andT_f, orT_t, orT_f, ifK_t, ifK_f, ifE_t, ifE_f, andK_t, andK_f, orK_t, orK_f, L2.start, List.map_cons, List.map_nil, List.length_cons, List.length_nil, List.replicate_succ, List.replicate_zero, List.cons_append, List.nil_append, List.getElem?_cons_succ, List.getElem?_cons_zero, List.set_cons_succ, List.set_cons_zero, Nat.reduceAdd, Nat.reduceSub, Nat.zero_add, decide_true, decide_false, Bool.not_true, Bool.not_false, if_true, if_false, rEq, rNe, scal_ii, scal_ss, scal_bb, scal_is, scal_si, scal_ns, scal_ni, scal_in, scal_sn, scal_nn, rI, rI0, rU, rIxLH, rIxTH, rLenH, rLenTH, rSetL, rCatN, rTupOfN, rLstOfN, rSlLN, rSlTN, CDiv, CPow, CMul, CDivW, rNeNil, rLenO, rSplitN, rRepN, r_replC, rMulS, r_methK, rRepTN, r_cmK, rCmpO, rInO, r_ixO, r_revL, rInSelf, rCmpA, rBinO, Bool.false_xor, Bool.true_xor, r_starT, r_starL, r_cm, r_cval, selK_t, selK_f, rAppend, rIsK, reduceCtorEq, upd_same, at0, at1, at2, at3, at4, at5, at6, at7, at8, at9, at10, at11, at12, at13, ix3_0, ix3_1, ix3_2, V.int.injEq, V.bl.injEq, V.str.injEq, V.ref.injEq, Option.some.injEq, HO.lst.injEq, HO.tup.injEq, HO.ins.injEq, List.cons.injEq, and_true, true_and, exists_eq_left, exists_eq_left', exists_and_left, exists_eq', exists_eq, and_assoc, N_is_name]
  refine isi_ty (r := true) (.str z) (by decide +kernel) ?_
  try simp only [cxK, r_lam, r_dnew, r_err, r_base, r_serr, r_var, r_c, r_seq, r_next, r_break, r_cont, r_drop, r_ret, r_retN, r_if, r_ife, r_asg, r_name, r_op, r_un, r_nil, r_cons, r_lst2, r_tup2, r_lc, r_for, r_ilist, r_itup, r_istr, r_irng1, r_irng2, r_ienum, r_ienumS, wipe, r_cb, r_test, r_b, r_not, r_notV, r_andV, r_orV, r_isN, r_notN, r_m1, r_m0, r_fld, sFld, putF, r_par, r_sub, r_gtup, r_gnil, r_gcons, r_sl, r_nopart, r_part, r_bm, r_bm0, r_chain, r_call, r_callK, r_meth, r_prop, r_make, r_and, r_or, andT_t, andT_f, orT_t, orT_f, ifK_t, ifK_f, ifE_t, ifE_f, andK_t, andK_f, orK_t, orK_f, L2.start, List.map_cons, List.map_nil, List.length_cons, List.length_nil, List.replicate_succ, List.replicate_zero, List.cons_append, List.nil_append, List.getElem?_cons_succ, List.getElem?_cons_zero, List.set_cons_succ, List.set_cons_zero, Nat.reduceAdd, Nat.reduceSub, Nat.zero_add, decide_true, decide_false, Bool.not_true, Bool.not_false, if_true, if_false, rEq, rNe, scal_ii, scal_ss, scal_bb, scal_is, scal_si, scal_ns, scal_ni, scal_in, scal_sn, scal_nn, rI, rI0, rU, rIxLH, rIxTH, rLenH, rLenTH, rSetL, rCatN, rTupOfN, rLstOfN, rSlLN, rSlTN, CDiv, CPow, CMul, CDivW, rNeNil, rLenO, rSplitN, rRepN, r_replC, rMulS, r_methK, rRepTN, r_cmK, rCmpO, rInO, r_ixO, r_revL, rInSelf, rCmpA, rBinO, Bool.false_xor, Bool.true_xor, r_starT, r_starL, r_cm, r_cval, selK_t, selK_f, rAppend, rIsK, reduceCtorEq, upd_same, at0, at1, at2, at3, at4, at5, at6, at7, at8, at9, at10, at11, at12, at13, ix3_0, ix3_1, ix3_2, V.int.injEq, V.bl.injEq, V.str.injEq, V.ref.injEq, Option.some.injEq, HO.lst.injEq, HO.tup.injEq, HO.ins.injEq, List.cons.injEq, and_true, true_and, exists_eq_left, exists_eq_left', exists_and_left, exists_eq', exists_eq, and_assoc, N_is_name]
  have hl : z.length = z.cps.size := rfl
  by_cases h1 : (1 : Int) ≤ z.length
  · try simp only [cxK, r_lam, r_dnew, r_err, r_base, r_serr, r_var, r_c, r_seq, r_next, r_break, r_cont, r_drop, r_ret, r_retN, r_if, r_ife, r_asg, r_name, r_op, r_un, r_nil, r_cons, r_lst2, r_tup2, r_lc, r_for, r_ilist, r_itup, r_istr, r_irng1, r_irng2, r_ienum, r_ienumS, wipe, r_cb, r_test, r_b, r_not, r_notV, r_andV, r_orV, r_isN, r_notN, r_m1, r_m0, r_fld, sFld, putF, r_par, r_sub, r_gtup, r_gnil, r_gcons, r_sl, r_nopart, r_part, r_bm, r_bm0, r_chain, r_call, r_callK, r_meth, r_prop, r_make, r_and, r_or, andT_t, andT_f, orT_t, orT_f, ifK_t, ifK_f, ifE_t, ifE_f, andK_t, andK_f, orK_t, orK_f, L2.start, List.map_cons, List.map_nil, List.length_cons, List.length_nil, List.replicate_succ, List.replicate_zero, List.cons_append, List.nil_append, List.getElem?_cons_succ, List.getElem?_cons_zero, List.set_cons_succ, List.set_cons_zero, Nat.reduceAdd, Nat.reduceSub, Nat.zero_add, decide_true, decide_false, Bool.not_true, Bool.not_false, if_true, if_false, rEq, rNe, scal_ii, scal_ss, scal_bb, scal_is, scal_si, scal_ns, scal_ni, scal_in, scal_sn, scal_nn, rI, rI0, rU, rIxLH, rIxTH, rLenH, rLenTH, rSetL, rCatN, rTupOfN, rLstOfN, rSlLN, rSlTN, CDiv, CPow, CMul, CDivW, rNeNil, rLenO, rSplitN, rRepN, r_replC, rMulS, r_methK, rRepTN, r_cmK, rCmpO, rInO, r_ixO, r_revL, rInSelf, rCmpA, rBinO, Bool.false_xor, Bool.true_xor, r_starT, r_starL, r_cm, r_cval, selK_t, selK_f, rAppend, rIsK, reduceCtorEq, upd_same, at0, at1, at2, at3, at4, at5, at6, at7, at8, at9, at10, at11, at12, at13, ix3_0, ix3_1, ix3_2, V.int.injEq, V.bl.injEq, V.str.injEq, V.ref.injEq, Option.some.injEq, HO.lst.injEq, HO.tup.injEq, HO.ins.injEq, List.cons.injEq, and_true, true_and, exists_eq_left, exists_eq_left', exists_and_left, exists_eq', exists_eq, and_assoc, N_is_name, h1]
    refine ⟨fits (by rw [hl]; omega), ?_⟩
    by_cases h2 : (z.length : Int) ≤ 12
    · try simp only [cxK, r_lam, r_dnew, r_err, r_base, r_serr, r_var, r_c, r_seq, r_next, r_break, r_cont, r_drop, r_ret, r_retN, r_if, r_ife, r_asg, r_name, r_op, r_un, r_nil, r_cons, r_lst2, r_tup2, r_lc, r_for, r_ilist, r_itup, r_istr, r_irng1, r_irng2, r_ienum, r_ienumS, wipe, r_cb, r_test, r_b, r_not, r_notV, r_andV, r_orV, r_isN, r_notN, r_m1, r_m0, r_fld, sFld, putF, r_par, r_sub, r_gtup, r_gnil, r_gcons, r_sl, r_nopart, r_part, r_bm, r_bm0, r_chain, r_call, r_callK, r_meth, r_prop, r_make, r_and, r_or, andT_t, andT_f, orT_t, orT_f, ifK_t, ifK_f, ifE_t, ifE_f, andK_t, andK_f, orK_t, orK_f, L2.start, List.map_cons, List.map_nil, List.length_cons, List.length_nil, List.replicate_succ, List.replicate_zero, List.cons_append, List.nil_append, List.getElem?_cons_succ, List.getElem?_cons_zero, List.set_cons_succ, List.set_cons_zero, Nat.reduceAdd, Nat.reduceSub, Nat.zero_add, decide_true, decide_false, Bool.not_true, Bool.not_false, if_true, if_false, rEq, rNe, scal_ii, scal_ss, scal_bb, scal_is, scal_si, scal_ns, scal_ni, scal_in, scal_sn, scal_nn, rI, rI0, rU, rIxLH, rIxTH, rLenH, rLenTH, rSetL, rCatN, rTupOfN, rLstOfN, rSlLN, rSlTN, CDiv, CPow, CMul, CDivW, rNeNil, rLenO, rSplitN, rRepN, r_replC, rMulS, r_methK, rRepTN, r_cmK, rCmpO, rInO, r_ixO, r_revL, rInSelf, rCmpA, rBinO, Bool.false_xor, Bool.true_xor, r_starT, r_starL, r_cm, r_cval, selK_t, selK_f, rAppend, rIsK, reduceCtorEq, upd_same, at0, at1, at2, at3, at4, at5, at6, at7, at8, at9, at10, at11, at12, at13, ix3_0, ix3_1, ix3_2, V.int.injEq, V.bl.injEq, V.str.injEq, V.ref.injEq, Option.some.injEq, HO.lst.injEq, HO.tup.injEq, HO.ins.injEq, List.cons.injEq, and_true, true_and, exists_eq_left, exists_eq_left', exists_and_left, exists_eq', exists_eq, and_assoc, N_is_name, h2]
      refine ⟨fits (by decide), fun p H1 n1 => ?_⟩
      refine ⟨p, _, rfl, Or.inr (SqT.of n1.at_), rfl, rfl, ?_⟩
      have e : inV (V.str z) [V.str (PySem.Str.ofString "."), V.str (PySem.Str.ofString "..")] = (z == pt1 || z == pt2) := by
        rw [pt1_eq, pt2_eq]
        show ((pt1 == z) || ((pt2 == z) || false)) = _
        rw [Bool.or_false, BEq.comm (a := pt1), BEq.comm (a := pt2)]
      rw [if_neg Bool.false_ne_true, e]
      cases h3 : (z == pt1 || z == pt2) with
      | true =>
        try simp only [cxK, r_lam, r_dnew, r_err, r_base, r_serr, r_var, r_c, r_seq, r_next, r_break, r_cont, r_drop, r_ret, r_retN, r_if, r_ife, r_asg, r_name, r_op, r_un, r_nil, r_cons, r_lst2, r_tup2, r_lc, r_for, r_ilist, r_itup, r_istr, r_irng1, r_irng2, r_ienum, r_ienumS, wipe, r_cb, r_test, r_b, r_not, r_notV, r_andV, r_orV, r_isN, r_notN, r_m1, r_m0, r_fld, sFld, putF, r_par, r_sub, r_gtup, r_gnil, r_gcons, r_sl, r_nopart, r_part, r_bm, r_bm0, r_chain, r_call, r_callK, r_meth, r_prop, r_make, r_and, r_or, andT_t, andT_f, orT_t, orT_f, ifK_t, ifK_f, ifE_t, ifE_f, andK_t, andK_f, orK_t, orK_f, L2.start, List.map_cons, List.map_nil, List.length_cons, List.length_nil, List.replicate_succ, List.replicate_zero, List.cons_append, List.nil_append, List.getElem?_cons_succ, List.getElem?_cons_zero, List.set_cons_succ, List.set_cons_zero, Nat.reduceAdd, Nat.reduceSub, Nat.zero_add, decide_true, decide_false, Bool.not_true, Bool.not_false, if_true, if_false, rEq, rNe, scal_ii, scal_ss, scal_bb, scal_is, scal_si, scal_ns, scal_ni, scal_in, scal_sn, scal_nn, rI, rI0, rU, rIxLH, rIxTH, rLenH, rLenTH, rSetL, rCatN, rTupOfN, rLstOfN, rSlLN, rSlTN, CDiv, CPow, CMul, CDivW, rNeNil, rLenO, rSplitN, rRepN, r_replC, rMulS, r_methK, rRepTN, r_cmK, rCmpO, rInO, r_ixO, r_revL, rInSelf, rCmpA, rBinO, Bool.false_xor, Bool.true_xor, r_starT, r_starL, r_cm, r_cval, selK_t, selK_f, rAppend, rIsK, reduceCtorEq, upd_same, at0, at1, at2, at3, at4, at5, at6, at7, at8, at9, at10, at11, at12, at13, ix3_0, ix3_1, ix3_2, V.int.injEq, V.bl.injEq, V.str.injEq, V.ref.injEq, Option.some.injEq, HO.lst.injEq, HO.tup.injEq, HO.ins.injEq, List.cons.injEq, and_true, true_and, exists_eq_left, exists_eq_left', exists_and_left, exists_eq', exists_eq, and_assoc, N_is_name]
        have z3 := q H1 n1.same
        have e4 : isNm z = false := by unfold isNm; rw [h3]; simp
        rw [e4] at z3
        exact z3
      | false =>
        try simp only [cxK, r_lam, r_dnew, r_err, r_base, r_serr, r_var, r_c, r_seq, r_next, r_break, r_cont, r_drop, r_ret, r_retN, r_if, r_ife, r_asg, r_name, r_op, r_un, r_nil, r_cons, r_lst2, r_tup2, r_lc, r_for, r_ilist, r_itup, r_istr, r_irng1, r_irng2, r_ienum, r_ienumS, wipe, r_cb, r_test, r_b, r_not, r_notV, r_andV, r_orV, r_isN, r_notN, r_m1, r_m0, r_fld, sFld, putF, r_par, r_sub, r_gtup, r_gnil, r_gcons, r_sl, r_nopart, r_part, r_bm, r_bm0, r_chain, r_call, r_callK, r_meth, r_prop, r_make, r_and, r_or, andT_t, andT_f, orT_t, orT_f, ifK_t, ifK_f, ifE_t, ifE_f, andK_t, andK_f, orK_t, orK_f, L2.start, List.map_cons, List.map_nil, List.length_cons, List.length_nil, List.replicate_succ, List.replicate_zero, List.cons_append, List.nil_append, List.getElem?_cons_succ, List.getElem?_cons_zero, List.set_cons_succ, List.set_cons_zero, Nat.reduceAdd, Nat.reduceSub, Nat.zero_add, decide_true, decide_false, Bool.not_true, Bool.not_false, if_true, if_false, rEq, rNe, scal_ii, scal_ss, scal_bb, scal_is, scal_si, scal_ns, scal_ni, scal_in, scal_sn, scal_nn, rI, rI0, rU, rIxLH, rIxTH, rLenH, rLenTH, rSetL, rCatN, rTupOfN, rLstOfN, rSlLN, rSlTN, CDiv, CPow, CMul, CDivW, rNeNil, rLenO, rSplitN, rRepN, r_replC, rMulS, r_methK, rRepTN, r_cmK, rCmpO, rInO, r_ixO, r_revL, rInSelf, rCmpA, rBinO, Bool.false_xor, Bool.true_xor, r_starT, r_starL, r_cm, r_cval, selK_t, selK_f, rAppend, rIsK, reduceCtorEq, upd_same, at0, at1, at2, at3, at4, at5, at6, at7, at8, at9, at10, at11, at12, at13, ix3_0, ix3_1, ix3_2, V.int.injEq, V.bl.injEq, V.str.injEq, V.ref.injEq, Option.some.injEq, HO.lst.injEq, HO.tup.injEq, HO.ins.injEq, List.cons.injEq, and_true, true_and, exists_eq_left, exists_eq_left', exists_and_left, exists_eq', exists_eq, and_assoc, N_is_name]
        refine lcK_it walk_str (fun D i acc H' => Same H H' ∧ acc = ((z.cps.toList.map fun c => decide (c ∈ sgns)).take i).map V.bl) ?_ (fun _ _ _ _ _ _ _ _ => trivial) ?_ ?_
        · intro D H0 n0
          exact ⟨same_trans n1.same n0.same, rfl⟩
        · rintro D i x acc H2 H3 nD hi hD hl3 ⟨sm, ea⟩ ⟨rfl, c, hc, rfl⟩
          try simp only [cxK, r_lam, r_dnew, r_err, r_base, r_serr, r_var, r_c, r_seq, r_next, r_break, r_cont, r_drop, r_ret, r_retN, r_if, r_ife, r_asg, r_name, r_op, r_un, r_nil, r_cons, r_lst2, r_tup2, r_lc, r_for, r_ilist, r_itup, r_istr, r_irng1, r_irng2, r_ienum, r_ienumS, wipe, r_cb, r_test, r_b, r_not, r_notV, r_andV, r_orV, r_isN, r_notN, r_m1, r_m0, r_fld, sFld, putF, r_par, r_sub, r_gtup, r_gnil, r_gcons, r_sl, r_nopart, r_part, r_bm, r_bm0, r_chain, r_call, r_callK, r_meth, r_prop, r_make, r_and, r_or, andT_t, andT_f, orT_t, orT_f, ifK_t, ifK_f, ifE_t, ifE_f, andK_t, andK_f, orK_t, orK_f, L2.start, List.map_cons, List.map_nil, List.length_cons, List.length_nil, List.replicate_succ, List.replicate_zero, List.cons_append, List.nil_append, List.getElem?_cons_succ, List.getElem?_cons_zero, List.set_cons_succ, List.set_cons_zero, Nat.reduceAdd, Nat.reduceSub, Nat.zero_add, decide_true, decide_false, Bool.not_true, Bool.not_false, if_true, if_false, rEq, rNe, scal_ii, scal_ss, scal_bb, scal_is, scal_si, scal_ns, scal_ni, scal_in, scal_sn, scal_nn, rI, rI0, rU, rIxLH, rIxTH, rLenH, rLenTH, rSetL, rCatN, rTupOfN, rLstOfN, rSlLN, rSlTN, CDiv, CPow, CMul, CDivW, rNeNil, rLenO, rSplitN, rRepN, r_replC, rMulS, r_methK, rRepTN, r_cmK, rCmpO, rInO, r_ixO, r_revL, rInSelf, rCmpA, rBinO, Bool.false_xor, Bool.true_xor, r_starT, r_starL, r_cm, r_cval, selK_t, selK_f, rAppend, rIsK, reduceCtorEq, upd_same, at0, at1, at2, at3, at4, at5, at6, at7, at8, at9, at10, at11, at12, at13, ix3_0, ix3_1, ix3_2, V.int.injEq, V.bl.injEq, V.str.injEq, V.ref.injEq, Option.some.injEq, HO.lst.injEq, HO.tup.injEq, HO.ins.injEq, List.cons.injEq, and_true, true_and, exists_eq_left, exists_eq_left', exists_and_left, exists_eq', exists_eq, and_assoc, N_is_name, sign_eq]
          refine ⟨c, rfl, addK_mk hD hl3 (by omega) ⟨fun b o hb => ?_, ?_⟩⟩
          · rw [upd_ne (fun zz => by subst zz; rw [n1.old hb] at nD; cases nD)]
            exact sm b o hb
          · have hc2 : z.cps.toList[i]? = some c := by simpa using hc
            rw [ea, List.take_add_one, List.getElem?_map, hc2]
            simp
        · rintro D acc H2 nD hD hl2 ⟨sm, ea⟩
          have ea2 : acc = (z.cps.toList.map fun c => decide (c ∈ sgns)).map V.bl := by
            rw [ea, List.take_of_length_le (by simp)]
          rw [ea2] at hD
          refine ⟨D, _, rfl, SqL.of hD, ?_⟩
          have z3 := q H2 sm
          have e4 : isNm z = ((z.cps.toList.map fun c => decide (c ∈ sgns)).all id) := by
            unfold isNm
            rw [h3, List.all_map]
            have a1 : 1 ≤ z.length := by omega
            have a2 : z.length ≤ 12 := by omega
            simp [a1, a2]
          rw [e4] at z3
          exact z3
    · try simp only [cxK, r_lam, r_dnew, r_err, r_base, r_serr, r_var, r_c, r_seq, r_next, r_break, r_cont, r_drop, r_ret, r_retN, r_if, r_ife, r_asg, r_name, r_op, r_un, r_nil, r_cons, r_lst2, r_tup2, r_lc, r_for, r_ilist, r_itup, r_istr, r_irng1, r_irng2, r_ienum, r_ienumS, wipe, r_cb, r_test, r_b, r_not, r_notV, r_andV, r_orV, r_isN, r_notN, r_m1, r_m0, r_fld, sFld, putF, r_par, r_sub, r_gtup, r_gnil, r_gcons, r_sl, r_nopart, r_part, r_bm, r_bm0, r_chain, r_call, r_callK, r_meth, r_prop, r_make, r_and, r_or, andT_t, andT_f, orT_t, orT_f, ifK_t, ifK_f, ifE_t, ifE_f, andK_t, andK_f, orK_t, orK_f, L2.start, List.map_cons, List.map_nil, List.length_cons, List.length_nil, List.replicate_succ, List.replicate_zero, List.cons_append, List.nil_append, List.getElem?_cons_succ, List.getElem?_cons_zero, List.set_cons_succ, List.set_cons_zero, Nat.reduceAdd, Nat.reduceSub, Nat.zero_add, decide_true, decide_false, Bool.not_true, Bool.not_false, if_true, if_false, rEq, rNe, scal_ii, scal_ss, scal_bb, scal_is, scal_si, scal_ns, scal_ni, scal_in, scal_sn, scal_nn, rI, rI0, rU, rIxLH, rIxTH, rLenH, rLenTH, rSetL, rCatN, rTupOfN, rLstOfN, rSlLN, rSlTN, CDiv, CPow, CMul, CDivW, rNeNil, rLenO, rSplitN, rRepN, r_replC, rMulS, r_methK, rRepTN, r_cmK, rCmpO, rInO, r_ixO, r_revL, rInSelf, rCmpA, rBinO, Bool.false_xor, Bool.true_xor, r_starT, r_starL, r_cm, r_cval, selK_t, selK_f, rAppend, rIsK, reduceCtorEq, upd_same, at0, at1, at2, at3, at4, at5, at6, at7, at8, at9, at10, at11, at12, at13, ix3_0, ix3_1, ix3_2, V.int.injEq, V.bl.injEq, V.str.injEq, V.ref.injEq, Option.some.injEq, HO.lst.injEq, HO.tup.injEq, HO.ins.injEq, List.cons.injEq, and_true, true_and, exists_eq_left, exists_eq_left', exists_and_left, exists_eq', exists_eq, and_assoc, N_is_name, h2]
      have z3 := q H same_refl
      have e4 : isNm z = false := by unfold isNm; have : ¬ z.length ≤ 12 := by omega
                                     simp [this]
      rw [e4] at z3
      exact z3
  · try simp only [cxK, r_lam, r_dnew, r_err, r_base, r_serr, r_var, r_c, r_seq, r_next, r_break, r_cont, r_drop, r_ret, r_retN, r_if, r_ife, r_asg, r_name, r_op, r_un, r_nil, r_cons, r_lst2, r_tup2, r_lc, r_for, r_ilist, r_itup, r_istr, r_irng1, r_irng2, r_ienum, r_ienumS, wipe, r_cb, r_test, r_b, r_not, r_notV, r_andV, r_orV, r_isN, r_notN, r_m1, r_m0, r_fld, sFld, putF, r_par, r_sub, r_gtup, r_gnil, r_gcons, r_sl, r_nopart, r_part, r_bm, r_bm0, r_chain, r_call, r_callK, r_meth, r_prop, r_make, r_and, r_or, andT_t, andT_f, orT_t, orT_f, ifK_t, ifK_f, ifE_t, ifE_f, andK_t, andK_f, orK_t, orK_f, L2.start, List.map_cons, List.map_nil, List.length_cons, List.length_nil, List.replicate_succ, List.replicate_zero, List.cons_append, List.nil_append, List.getElem?_cons_succ, List.getElem?_cons_zero, List.set_cons_succ, List.set_cons_zero, Nat.reduceAdd, Nat.reduceSub, Nat.zero_add, decide_true, decide_false, Bool.not_true, Bool.not_false, if_true, if_false, rEq, rNe, scal_ii, scal_ss, scal_bb, scal_is, scal_si, scal_ns, scal_ni, scal_in, scal_sn, scal_nn, rI, rI0, rU, rIxLH, rIxTH, rLenH, rLenTH, rSetL, rCatN, rTupOfN, rLstOfN, rSlLN, rSlTN, CDiv, CPow, CMul, CDivW, rNeNil, rLenO, rSplitN, rRepN, r_replC, rMulS, r_methK, rRepTN, r_cmK, rCmpO, rInO, r_ixO, r_revL, rInSelf, rCmpA, rBinO, Bool.false_xor, Bool.true_xor, r_starT, r_starL, r_cm, r_cval, selK_t, selK_f, rAppend, rIsK, reduceCtorEq, upd_same, at0, at1, at2, at3, at4, at5, at6, at7, at8, at9, at10, at11, at12, at13, ix3_0, ix3_1, ix3_2, V.int.injEq, V.bl.injEq, V.str.injEq, V.ref.injEq, Option.some.injEq, HO.lst.injEq, HO.tup.injEq, HO.ins.injEq, List.cons.injEq, and_true, true_and, exists_eq_left, exists_eq_left', exists_and_left, exists_eq', exists_eq, and_assoc, N_is_name, h1]
    refine ⟨fits (by rw [hl]; omega), ?_⟩
    have z3 := q H same_refl
    have e4 : isNm z = false := by unfold isNm; have : ¬ 1 ≤ z.length := by omega
                                   simp [this]
    rw [e4] at z3
    exact z3

/-- what a path's text is -/
def textOf (ns : List Str) : Str := if ns = [] then "/" else Txt.join "" (ns.map fun n => "/" ++ n)
def Nms (ns : List Str) : Prop := ns.length ≤ 1000 ∧ ∀ x ∈ ns, PyData.strOk x = true ∧ x.length ≤ 1000
theorem Nms.ok {ns : List Str} (h : Nms ns) : ∀ x ∈ ns, PyData.strOk x = true := fun x hx => (h.2 x hx).1
theorem sum_le : ∀ (l : List Str) (m : Nat), (∀ x ∈ l, x.length ≤ m) → (l.map fun x => x.length).sum ≤ l.length * m
  | [], m, _ => by simp
  | x :: r, m, h => by
    have h1 := sum_le r m (fun y hy => h y (List.mem_cons_of_mem _ hy))
    have h2 := h x List.mem_cons_self
    simp only [List.map_cons, List.sum_cons, List.length_cons]
    rw [Nat.add_mul]
    omega
def spPlace : Sp := fun vs H Q _ => ∃ (t : Addr) (ns : List Str), vs = [.ref t] ∧ H t = some (.tup (ns.map V.str)) ∧ Nms ns ∧ ∀ H', Same H H' → Q (.str (textOf ns)) H'
theorem glue_fits {ns : List Str} (h : Nms ns) : ((ns.map fun n => (PySem.Str.ofString "/") ++ n).map fun x => x.length).sum + (ns.map fun n => (PySem.Str.ofString "/") ++ n).length * (PySem.Str.ofString "").length ≤ 16777216 := by
  have h1 := sum_le (ns.map fun n => (PySem.Str.ofString "/") ++ n) 1001 (fun x hx => by
    obtain ⟨y, hy, rfl⟩ := List.mem_map.mp hx
    have := (h.2 y hy).2
    rw [len_app]
    have e : (PySem.Str.ofString "/").length = 1 := by decide
    omega)
  have e : (PySem.Str.ofString "").length = 0 := by decide
  rw [e]
  rw [List.length_map] at h1
  have := h.1
  omega
/-- the parts of a name at its last point -/
def partsOf (z : Str) : Str × Str := if 0 < Txt.rfind z "." ∧ Txt.rfind z "." < (z.length : Int) - 1 then (cutS z none (some (Txt.rfind z ".")), cutS z (some (Txt.rfind z ".")) none) else (z, "")
def spParts : Sp := fun vs H Q _ => ∃ z : Str, vs = [.str z] ∧ z.length ≤ 16000000 ∧ ∀ H' t, Same H H' → H' t = some (.tup [.str (partsOf z).1, .str (partsOf z).2]) → Q (.ref t) H'
/-- a path of names at p -/
def IsPath (K : PySem.W.Frag) (H : Hp) (p : Addr) (ns : List Str) : Prop := ∃ dx t, H p = some (.ins (ga K "Path") dx [("names", .ref t)]) ∧ H t = some (.tup (ns.map V.str))
theorem IsPath.same {K : PySem.W.Frag} {H H' : Hp} {p : Addr} {ns : List Str} (h : IsPath K H p ns) (s : Same H H') : IsPath K H' p ns := let ⟨dx, t, a, b⟩ := h; ⟨dx, t, s _ _ a, s _ _ b⟩
theorem IsPath.oth {K : PySem.W.Frag} {H H' : Hp} {p a : Addr} {xs : List V} {ns : List Str} (h : IsPath K H p ns) (s : Oth a H H') (ha : H a = some (.lst xs)) : IsPath K H' p ns := by
  obtain ⟨dx, t, h1, h2⟩ := h
  refine ⟨dx, t, s _ _ (fun e => ?_) h1, s _ _ (fun e => ?_) h2⟩
  · subst e
    rw [ha] at h1
    cases h1
  · subst e
    rw [ha] at h2
    cases h2
theorem isNm_fits {z : Str} (h : isNm z = true) : z.length ≤ 12 ∧ PyData.strOk z = true ∧ 1 ≤ z.length := by
  unfold isNm at h
  simp only [Bool.and_eq_true, decide_eq_true_eq] at h
  obtain ⟨⟨⟨h1, h2⟩, _⟩, h3⟩ := h
  refine ⟨h2, ?_, h1⟩
  rw [ok_list]
  rw [List.all_eq_true] at h3 ⊢
  intro c hc
  have q := of_decide_eq_true (h3 c hc)
  have all : (sgns.all fun c => decide (c < 0x110000)) = true := by decide +kernel
  exact (List.all_eq_true.mp all) c q
def spInit (K : PySem.W.Frag) : Sp := fun vs H Q _ => ∃ (p t dx : Addr) (ns : List Str), vs = [.ref p, .ref t] ∧ H p = some (.ins (ga K "Path") dx []) ∧ H t = some (.tup (ns.map V.str)) ∧ ns.length ≤ 12 ∧ (∀ x ∈ ns, isNm x = true) ∧
  ∀ H', Same H H' → Q .non (upd H' p (.ins (ga K "Path") dx [("names", .ref t)]))
/-- what is no name, being no text -/
def Odd (H : Hp) (v : V) : Prop := v = .non ∨ (∃ i, v = .int i) ∨ (∃ b, v = .bl b) ∨ ∃ a xs, v = .ref a ∧ (H a = some (.tup xs) ∨ H a = some (.lst xs) ∨ ∃ kvs, H a = some (.dK kvs))
theorem Odd.same {H H' : Hp} {v : V} (h : Odd H v) (s : Same H H') : Odd H' v := by
  rcases h with h | h | h | ⟨a, xs, e, h | h | ⟨kvs, h⟩⟩
  · exact .inl h
  · exact .inr (.inl h)
  · exact .inr (.inr (.inl h))
  · exact .inr (.inr (.inr ⟨a, xs, e, .inl (s _ _ h)⟩))
  · exact .inr (.inr (.inr ⟨a, xs, e, .inr (.inl (s _ _ h))⟩))
  · exact .inr (.inr (.inr ⟨a, xs, e, .inr (.inr ⟨kvs, s _ _ h⟩)⟩))
theorem Odd.ty {K : PySem.W.Frag} {H : Hp} {v : V} (h : Odd H v) : ∃ t, TyOf K H v (.type t) ∧ kitB t "str" = some false := by
  rcases h with rfl | ⟨i, rfl⟩ | ⟨b, rfl⟩ | ⟨a, xs, rfl, h | h | ⟨kvs, h⟩⟩
  · exact ⟨_, .non, by decide +kernel⟩
  · exact ⟨_, .int i, by decide +kernel⟩
  · exact ⟨_, .bl b, by decide +kernel⟩
  · exact ⟨_, .tup h, by decide +kernel⟩
  · exact ⟨_, .lst h, by decide +kernel⟩
  · exact ⟨_, .dK h, by decide +kernel⟩
/-- v is a name: b -/
def NmV (H : Hp) (v : V) (b : Bool) : Prop := (∃ z, v = .str z ∧ z.cps.size ≤ 16000000 ∧ b = isNm z) ∨ (Odd H v ∧ b = false)
theorem NmV.same {H H' : Hp} {v : V} {b : Bool} (h : NmV H v b) (s : Same H H') : NmV H' v b := by
  rcases h with h | ⟨h, e⟩
  · exact .inl h
  · exact .inr ⟨h.same s, e⟩
def spNmV : Sp := fun vs H Q _ => ∃ (v : V) (b : Bool), vs = [v] ∧ NmV H v b ∧ ∀ H', Same H H' → Q (.bl b) H'
theorem ok_is_nameO (T : Tx fa fn K mg) : Fn gd P w K mg base 1 (aG "is_name" K) [] (fun vs H Q E => ∃ v, vs = [v] ∧ Odd H v ∧ Q (.bl false) H) := by
  obtain ⟨fd, F⟩ := F_is_name T
  refine fn_all F sc_is_name (fun vs H Q E h => ?_) (b_is_name F) (fun cdv A outer s H vs Q E hr h => ⟨_, (pss_cons (ps_if (PW.pt (pw_or (pt_not (pt_val (pe_callB call_isi (by rfl) (T.free (T.c.fact 9 (f := fFree "isinstance") rfl)) (by decide +kernel) (pa_cons (pv 0) (pa_cons (pe_bltn (v := .ty "str") (by rfl) (T.free (T.c.fact 10 (f := fFree "str") rfl)) (by decide +kernel) rfl) pa_nil))))) (pw_or (pt_not (pt_chain op_le op_le pe_int (pe_callB call_len_str (by rfl) (T.free (T.c.fact 0 (f := fFree "len") rfl)) (by decide +kernel) (pa_cons (pv 0) pa_nil)) (pe_gint rfl (T.int (T.c.fact 8 (f := fInt "MAX_NAME" (12)) rfl))))) (pw_or1 (pt_cmpR op_in_seq (pv 0) (pe_tup (pa_cons pe_str (pa_cons pe_str pa_nil))) rfl)))))
 (pss_one (ps_ret pe_bl))
 pss_nil)
 (pss_one (ps_ret (pe_callB (cr_all rfl) (by rfl) (T.free (T.c.fact 6 (f := fFree "all") rfl)) (by decide +kernel) (pa_cons (pe_lc (own := [("sign", 1)]) (g := gName 1) (tt := tYes) rfl sc_is_name.nd (pi_str (pv 0)) (blkOk_by (own := [("sign", 1)]) (N := N_is_name) (sc := defScope s_is_name) (by decide +kernel)) (fun _ _ _ _ _ => (pg_name (i := 1) sc_is_name.nd rfl (Or.inl rfl))) (fun _ _ _ _ _ => pts_nil) (fun _ _ _ _ _ => (pe_cmpR op_in_sign (pv 1) (pe_gstr rfl (T.str (T.c.fact 7 (f := fStr "NAME_SIGNS" "abcdefghijklmnopqrstuvwxyz0123456789_-.") rfl))) rfl))) pa_nil))))), ?_⟩)
  · first | (obtain ⟨_, e, _⟩ := h; subst e; rfl) | (obtain ⟨_, _, e, _⟩ := h; subst e; rfl) | (obtain ⟨_, _, _, e, _⟩ := h; subst e; rfl) | (obtain ⟨_, _, _, _, e, _⟩ := h; subst e; rfl) | (obtain ⟨_, _, _, _, _, e, _⟩ := h; subst e; rfl) | (obtain ⟨_, _, _, _, _, _, e, _⟩ := h; subst e; rfl) | (obtain ⟨_, _, _, _, _, _, _, e, _⟩ := h; subst e; rfl) | (obtain ⟨_, _, _, _, _, _, _, _, e, _⟩ := h; subst e; rfl) | (obtain ⟨_, _, _, _, _, _, _, _, _, e, _⟩ := h; subst e; rfl) | (obtain ⟨_, _, _, _, _, _, _, _, _, _, e, _⟩ := h; subst e; rfl) | (obtain ⟨_, _, _, _, _, _, _, _, _, _, _, e, _⟩ := h; subst e; rfl)
  obtain ⟨v, rfl, ho, q⟩ := h
  try simp only [cxK, r_lam, r_dnew, r_err, r_base, r_serr, r_var, r_c, r_seq, r_next, r_break, r_cont, r_drop, r_ret, r_retN, r_if, r_ife, r_asg, r_name, r_op, r_un, r_nil, r_cons, r_lst2, r_tup2, r_lc, r_for, r_ilist, r_itup, r_istr, r_irng1, r_irng2, r_ienum, r_ienumS, wipe, r_cb, r_test, r_b, r_not, r_notV, r_andV, r_orV, r_isN, r_notN, r_m1, r_m0, r_fld, sFld, putF, r_par, r_sub, r_gtup, r_gnil, r_gcons, r_sl, r_nopart, r_part, r_bm, r_bm0, r_chain, r_call, r_callK, r_meth, r_prop, r_make, r_and, r_or, andT_t, andT_f, orT_t, orT_f, ifK_t, ifK_f, ifE_t, ifE_f, andK_t, andK_f, orK_t, orK_f, L2.start, List.map_cons, List.map_nil, List.length_cons, List.length_nil, List.replicate_succ, List.replicate_zero, List.cons_append, List.nil_append, List.getElem?_cons_succ, List.getElem?_cons_zero, List.set_cons_succ, List.set_cons_zero, Nat.reduceAdd, Nat.reduceSub, Nat.zero_add, decide_true, decide_false, Bool.not_true, Bool.not_false, if_true, if_false, rEq, rNe, scal_ii, scal_ss, scal_bb, scal_is, scal_si, scal_ns, scal_ni, scal_in, scal_sn, scal_nn, rI, rI0, rU, rIxLH, rIxTH, rLenH, rLenTH, rSetL, rCatN, rTupOfN, rLstOfN, rSlLN, rSlTN, CDiv, CPow, CMul, CDivW, rNeNil, rLenO, rSplitN, rRepN, r_replC, rMulS, r_methK, rRepTN, r_cmK, rCmpO, rInO, r_ixO, r_revL, rInSelf, rCmpA, rBinO, Bool.false_xor, Bool.true_xor, r_starT, r_starL, r_cm, r_cval, selK_t, selK_f, rAppend, rIsK, reduceCtorEq, upd_same, at0, at1, at2, at3, at4, at5, at6, at7, at8, at9, at10, at11, at12, at13, ix3_0, ix3_1, ix3_2, V.int.injEq, V.bl.injEq, V.str.injEq, V.ref.injEq, Option.some.injEq, HO.lst.injEq, HO.tup.injEq, HO.ins.injEq, List.cons.injEq, and_true, true_and, exists_eq_left, exists_eq_left', exists_and_left, exists_eq', exists_eq, and_assoc, N_is_name]
  obtain ⟨t, ty, kt⟩ := ho.ty (K := K)
  refine isi_ty (r := false) ty kt ?_
  try simp only [cxK, r_lam, r_dnew, r_err, r_base, r_serr, r_var, r_c, r_seq, r_next, r_break, r_cont, r_drop, r_ret, r_retN, r_if, r_ife, r_asg, r_name, r_op, r_un, r_nil, r_cons, r_lst2, r_tup2, r_lc, r_for, r_ilist, r_itup, r_istr, r_irng1, r_irng2, r_ienum, r_ienumS, wipe, r_cb, r_test, r_b, r_not, r_notV, r_andV, r_orV, r_isN, r_notN, r_m1, r_m0, r_fld, sFld, putF, r_par, r_sub, r_gtup, r_gnil, r_gcons, r_sl, r_nopart, r_part, r_bm, r_bm0, r_chain, r_call, r_callK, r_meth, r_prop, r_make, r_and, r_or, andT_t, andT_f, orT_t, orT_f, ifK_t, ifK_f, ifE_t, ifE_f, andK_t, andK_f, orK_t, orK_f, L2.start, List.map_cons, List.map_nil, List.length_cons, List.length_nil, List.replicate_succ, List.replicate_zero, List.cons_append, List.nil_append, List.getElem?_cons_succ, List.getElem?_cons_zero, List.set_cons_succ, List.set_cons_zero, Nat.reduceAdd, Nat.reduceSub, Nat.zero_add, decide_true, decide_false, Bool.not_true, Bool.not_false, if_true, if_false, rEq, rNe, scal_ii, scal_ss, scal_bb, scal_is, scal_si, scal_ns, scal_ni, scal_in, scal_sn, scal_nn, rI, rI0, rU, rIxLH, rIxTH, rLenH, rLenTH, rSetL, rCatN, rTupOfN, rLstOfN, rSlLN, rSlTN, CDiv, CPow, CMul, CDivW, rNeNil, rLenO, rSplitN, rRepN, r_replC, rMulS, r_methK, rRepTN, r_cmK, rCmpO, rInO, r_ixO, r_revL, rInSelf, rCmpA, rBinO, Bool.false_xor, Bool.true_xor, r_starT, r_starL, r_cm, r_cval, selK_t, selK_f, rAppend, rIsK, reduceCtorEq, upd_same, at0, at1, at2, at3, at4, at5, at6, at7, at8, at9, at10, at11, at12, at13, ix3_0, ix3_1, ix3_2, V.int.injEq, V.bl.injEq, V.str.injEq, V.ref.injEq, Option.some.injEq, HO.lst.injEq, HO.tup.injEq, HO.ins.injEq, List.cons.injEq, and_true, true_and, exists_eq_left, exists_eq_left', exists_and_left, exists_eq', exists_eq, and_assoc, N_is_name]
  exact q
theorem ok_is_nameV (T : Tx fa fn K mg) : Fn gd P w K mg base 1 (aG "is_name" K) [] spNmV := by
  intro A outer s H us ws vs zs Q E hr e0 r rz l h
  obtain ⟨v, b, ev, hn, q⟩ := h
  rcases hn with ⟨z, rfl, hz, rfl⟩ | ⟨ho, rfl⟩
  · exact ok_is_name T A outer s H us ws vs zs Q E hr e0 r rz l ⟨z, ev, hz, q⟩
  · exact ok_is_nameO T A outer s H us ws vs zs Q E hr e0 r rz l ⟨v, ev, ho, q H same_refl⟩
def spInitX (K : PySem.W.Frag) : Sp := fun vs H Q E => ∃ (p t dx : Addr) (xs : List V) (bs : List Bool), vs = [.ref p, .ref t] ∧ H p = some (.ins (ga K "Path") dx []) ∧ H t = some (.tup xs) ∧ xs.length ≤ 1000 ∧ bs.length = xs.length ∧ (∀ (i : Nat) (x : V) (b : Bool), xs[i]? = some x → bs[i]? = some b → NmV H x b) ∧
  ∀ H', Same H H' → (bs.all id = true → xs.length ≤ 12 → Q .non (upd H' p (.ins (ga K "Path") dx [("names", .ref t)]))) ∧ (bs.all id = false → ∀ d fs, H' d = some (.xd fs) → E (.ref (ga K "BadName")) (some d) H') ∧
    (bs.all id = true → 12 < xs.length → ∀ d fs, H' d = some (.xd fs) → E (.ref (ga K "BadPath")) (some d) H')
theorem zip_map {xs : List V} {bs : List Bool} (l : bs.length = xs.length) : ∀ (i : Nat) (x : V), xs[i]? = some x → ∃ b, bs[i]? = some b := fun i x h => by
  have hi := idx_lt h
  exact ⟨bs[i], by simp [l, hi]⟩
def InitPv (H : Hp) (bs : List Bool) (_ : Addr) (i : Nat) (acc : List V) (H' : Hp) : Prop := Same H H' ∧ acc = (bs.take i).map V.bl
theorem ok_Path_initX (T : Tx fa fn K mg) : Fn gd P w K mg base 3 (aM "Path" "__init__" K) [] (fun vs H Q E => ∃ ws rest, vs = ws ++ rest ∧ ws.length = 1 ∧ rest.length ≤ sizeLine ∧ ∀ t, H t = Option.none → spInitX K (ws ++ [V.ref t]) (upd H t (.tup rest)) Q E) := by
  obtain ⟨fd, F⟩ := F_Path_init T
  refine fn_var (ps := ["self"]) (pv := "names") F sc_Path_init (v_Path_init F) (fun cdv A outer s H vs Q E hr h => ⟨_, (pss_cons (ps_if (pt_not (pt_val (pe_callB (cr_all rfl) (by rfl) (T.free (T.c.fact 6 (f := fFree "all") rfl)) (by decide +kernel) (pa_cons (pe_lc (own := [("name", 2)]) (g := gName 2) (tt := tYes) rfl sc_Path_init.nd (pi_tup (pv 1)) (blkOk_by (own := [("name", 2)]) (N := N_Path_init) (sc := defScope s_Path_init) (by decide +kernel)) (fun _ _ _ _ _ => (pg_name (i := 2) sc_Path_init.nd rfl (Or.inl rfl))) (fun _ _ _ _ _ => pts_nil) (fun _ _ _ _ _ => (pe_fn (ok_is_nameV T) (hr.mono (by decide)) rfl (g_is_name T) (k_is_name T) passL (pa_cons (pv 2) pa_nil)))) pa_nil))))
 (pss_one (ps_rerr rfl (takes_of rfl rfl rfl rfl) (ox_BadName T) (ok_BadName_init T) (hr.mono (by decide)) rfl (T.glo (T.c.fact 13 (f := fGlo "BadName") rfl)) passL (pa_cons pe_str pa_nil)))
 pss_nil)
 (pss_cons (ps_if (pt_cmpR op_gt (pe_callB call_len_th (by rfl) (T.free (T.c.fact 0 (f := fFree "len") rfl)) (by decide +kernel) (pa_cons (pv 1) pa_nil)) (pe_gint rfl (T.int (T.c.fact 11 (f := fInt "MAX_NAMES" (12)) rfl))) (nomark _))
 (pss_one (ps_rerr rfl (takes_of rfl rfl rfl rfl) (ox_BadPath T) (ok_BadPath_init T) (hr.mono (by decide)) rfl (T.glo (T.c.fact 12 (f := fGlo "BadPath") rfl)) passL (pa_cons pe_str pa_nil)))
 pss_nil)
 (pss_one (ps_fld (pv 0) (pv 1) rfl)))), ?_⟩)
  obtain ⟨p, t, dx, xs, bs, rfl, hp, ht, hl, hb, hN, q⟩ := h
  try simp only [cxK, r_lam, r_dnew, r_err, r_base, r_serr, r_var, r_c, r_seq, r_next, r_break, r_cont, r_drop, r_ret, r_retN, r_if, r_ife, r_asg, r_name, r_op, r_un, r_nil, r_cons, r_lst2, r_tup2, r_lc, r_for, r_ilist, r_itup, r_istr, r_irng1, r_irng2, r_ienum, r_ienumS, wipe, r_cb, r_test, r_b, r_not, r_notV, r_andV, r_orV, r_isN, r_notN, r_m1, r_m0, r_fld, sFld, putF, r_par, r_sub, r_gtup, r_gnil, r_gcons, r_sl, r_nopart, r_part, r_bm, r_bm0, r_chain, r_call, r_callK, r_meth, r_prop, r_make, r_and, r_or, andT_t, andT_f, orT_t, orT_f, ifK_t, ifK_f, ifE_t, ifE_f, andK_t, andK_f, orK_t, orK_f, L2.start, List.map_cons, List.map_nil, List.length_cons, List.length_nil, List.replicate_succ, List.replicate_zero, List.cons_append, List.nil_append, List.getElem?_cons_succ, List.getElem?_cons_zero, List.set_cons_succ, List.set_cons_zero, Nat.reduceAdd, Nat.reduceSub, Nat.zero_add, decide_true, decide_false, Bool.not_true, Bool.not_false, if_true, if_false, rEq, rNe, scal_ii, scal_ss, scal_bb, scal_is, scal_si, scal_ns, scal_ni, scal_in, scal_sn, scal_nn, rI, rI0, rU, rIxLH, rIxTH, rLenH, rLenTH, rSetL, rCatN, rTupOfN, rLstOfN, rSlLN, rSlTN, CDiv, CPow, CMul, CDivW, rNeNil, rLenO, rSplitN, rRepN, r_replC, rMulS, r_methK, rRepTN, r_cmK, rCmpO, rInO, r_ixO, r_revL, rInSelf, rCmpA, rBinO, Bool.false_xor, Bool.true_xor, r_starT, r_starL, r_cm, r_cval, selK_t, selK_f, rAppend, rIsK, reduceCtorEq, upd_same, at0, at1, at2, at3, at4, at5, at6, at7, at8, at9, at10, at11, at12, at13, ix3_0, ix3_1, ix3_2, V.int.injEq, V.bl.injEq, V.str.injEq, V.ref.injEq, Option.some.injEq, HO.lst.injEq, HO.tup.injEq, HO.ins.injEq, List.cons.injEq, and_true, true_and, exists_eq_left, exists_eq_left', exists_and_left, exists_eq', exists_eq, and_assoc, N_Path_init]
  refine ⟨⟨_, SqT.of ht⟩, ?_⟩
  refine lcK_it walk_tup (InitPv H bs) (fun D H0 n0 => ⟨n0.same, rfl⟩) (fun D i acc H1 nD hi hD pv => SqT.of (pv.1 _ _ ht)) ?_ ?_
  · rintro D i x acc H1 H2 nD hi hD hlen ⟨sm, ea⟩ ⟨rfl, hx⟩
    obtain ⟨b, eb⟩ := zip_map hb i x hx
    try simp only [cxK, r_lam, r_dnew, r_err, r_base, r_serr, r_var, r_c, r_seq, r_next, r_break, r_cont, r_drop, r_ret, r_retN, r_if, r_ife, r_asg, r_name, r_op, r_un, r_nil, r_cons, r_lst2, r_tup2, r_lc, r_for, r_ilist, r_itup, r_istr, r_irng1, r_irng2, r_ienum, r_ienumS, wipe, r_cb, r_test, r_b, r_not, r_notV, r_andV, r_orV, r_isN, r_notN, r_m1, r_m0, r_fld, sFld, putF, r_par, r_sub, r_gtup, r_gnil, r_gcons, r_sl, r_nopart, r_part, r_bm, r_bm0, r_chain, r_call, r_callK, r_meth, r_prop, r_make, r_and, r_or, andT_t, andT_f, orT_t, orT_f, ifK_t, ifK_f, ifE_t, ifE_f, andK_t, andK_f, orK_t, orK_f, L2.start, List.map_cons, List.map_nil, List.length_cons, List.length_nil, List.replicate_succ, List.replicate_zero, List.cons_append, List.nil_append, List.getElem?_cons_succ, List.getElem?_cons_zero, List.set_cons_succ, List.set_cons_zero, Nat.reduceAdd, Nat.reduceSub, Nat.zero_add, decide_true, decide_false, Bool.not_true, Bool.not_false, if_true, if_false, rEq, rNe, scal_ii, scal_ss, scal_bb, scal_is, scal_si, scal_ns, scal_ni, scal_in, scal_sn, scal_nn, rI, rI0, rU, rIxLH, rIxTH, rLenH, rLenTH, rSetL, rCatN, rTupOfN, rLstOfN, rSlLN, rSlTN, CDiv, CPow, CMul, CDivW, rNeNil, rLenO, rSplitN, rRepN, r_replC, rMulS, r_methK, rRepTN, r_cmK, rCmpO, rInO, r_ixO, r_revL, rInSelf, rCmpA, rBinO, Bool.false_xor, Bool.true_xor, r_starT, r_starL, r_cm, r_cval, selK_t, selK_f, rAppend, rIsK, reduceCtorEq, upd_same, at0, at1, at2, at3, at4, at5, at6, at7, at8, at9, at10, at11, at12, at13, ix3_0, ix3_1, ix3_2, V.int.injEq, V.bl.injEq, V.str.injEq, V.ref.injEq, Option.some.injEq, HO.lst.injEq, HO.tup.injEq, HO.ins.injEq, List.cons.injEq, and_true, true_and, exists_eq_left, exists_eq_left', exists_and_left, exists_eq', exists_eq, and_assoc, N_Path_init]
    refine ⟨x, b, rfl, (hN i x b hx eb).same sm, fun H3 s3 => addK_mk (s3 _ _ hD) hlen (by omega) ⟨same_upd nD (same_trans sm s3), ?_⟩⟩
    rw [ea, List.take_add_one, eb]
    simp
  · rintro D acc H1 nD hD hlen ⟨sm, ea⟩
    rw [← hb, List.take_length] at ea
    subst ea
    refine ⟨D, bs, rfl, SqL.of hD, ?_⟩
    have ht1 := sm _ _ ht
    have hp1 := sm _ _ hp
    cases hall : bs.all id with
    | false =>
      try simp only [cxK, r_lam, r_dnew, r_err, r_base, r_serr, r_var, r_c, r_seq, r_next, r_break, r_cont, r_drop, r_ret, r_retN, r_if, r_ife, r_asg, r_name, r_op, r_un, r_nil, r_cons, r_lst2, r_tup2, r_lc, r_for, r_ilist, r_itup, r_istr, r_irng1, r_irng2, r_ienum, r_ienumS, wipe, r_cb, r_test, r_b, r_not, r_notV, r_andV, r_orV, r_isN, r_notN, r_m1, r_m0, r_fld, sFld, putF, r_par, r_sub, r_gtup, r_gnil, r_gcons, r_sl, r_nopart, r_part, r_bm, r_bm0, r_chain, r_call, r_callK, r_meth, r_prop, r_make, r_and, r_or, andT_t, andT_f, orT_t, orT_f, ifK_t, ifK_f, ifE_t, ifE_f, andK_t, andK_f, orK_t, orK_f, L2.start, List.map_cons, List.map_nil, List.length_cons, List.length_nil, List.replicate_succ, List.replicate_zero, List.cons_append, List.nil_append, List.getElem?_cons_succ, List.getElem?_cons_zero, List.set_cons_succ, List.set_cons_zero, Nat.reduceAdd, Nat.reduceSub, Nat.zero_add, decide_true, decide_false, Bool.not_true, Bool.not_false, if_true, if_false, rEq, rNe, scal_ii, scal_ss, scal_bb, scal_is, scal_si, scal_ns, scal_ni, scal_in, scal_sn, scal_nn, rI, rI0, rU, rIxLH, rIxTH, rLenH, rLenTH, rSetL, rCatN, rTupOfN, rLstOfN, rSlLN, rSlTN, CDiv, CPow, CMul, CDivW, rNeNil, rLenO, rSplitN, rRepN, r_replC, rMulS, r_methK, rRepTN, r_cmK, rCmpO, rInO, r_ixO, r_revL, rInSelf, rCmpA, rBinO, Bool.false_xor, Bool.true_xor, r_starT, r_starL, r_cm, r_cval, selK_t, selK_f, rAppend, rIsK, reduceCtorEq, upd_same, at0, at1, at2, at3, at4, at5, at6, at7, at8, at9, at10, at11, at12, at13, ix3_0, ix3_1, ix3_2, V.int.injEq, V.bl.injEq, V.str.injEq, V.ref.injEq, Option.some.injEq, HO.lst.injEq, HO.tup.injEq, HO.ins.injEq, List.cons.injEq, and_true, true_and, exists_eq_left, exists_eq_left', exists_and_left, exists_eq', exists_eq, and_assoc, N_Path_init]
      intro d H2 n2
      exact (q H2 (same_trans sm n2.same)).2.1 hall d _ n2.at_
    | true =>
      by_cases h12 : (12 : Int) < (xs.length : Nat)
      · try simp only [cxK, r_lam, r_dnew, r_err, r_base, r_serr, r_var, r_c, r_seq, r_next, r_break, r_cont, r_drop, r_ret, r_retN, r_if, r_ife, r_asg, r_name, r_op, r_un, r_nil, r_cons, r_lst2, r_tup2, r_lc, r_for, r_ilist, r_itup, r_istr, r_irng1, r_irng2, r_ienum, r_ienumS, wipe, r_cb, r_test, r_b, r_not, r_notV, r_andV, r_orV, r_isN, r_notN, r_m1, r_m0, r_fld, sFld, putF, r_par, r_sub, r_gtup, r_gnil, r_gcons, r_sl, r_nopart, r_part, r_bm, r_bm0, r_chain, r_call, r_callK, r_meth, r_prop, r_make, r_and, r_or, andT_t, andT_f, orT_t, orT_f, ifK_t, ifK_f, ifE_t, ifE_f, andK_t, andK_f, orK_t, orK_f, L2.start, List.map_cons, List.map_nil, List.length_cons, List.length_nil, List.replicate_succ, List.replicate_zero, List.cons_append, List.nil_append, List.getElem?_cons_succ, List.getElem?_cons_zero, List.set_cons_succ, List.set_cons_zero, Nat.reduceAdd, Nat.reduceSub, Nat.zero_add, decide_true, decide_false, Bool.not_true, Bool.not_false, if_true, if_false, rEq, rNe, scal_ii, scal_ss, scal_bb, scal_is, scal_si, scal_ns, scal_ni, scal_in, scal_sn, scal_nn, rI, rI0, rU, rIxLH, rIxTH, rLenH, rLenTH, rSetL, rCatN, rTupOfN, rLstOfN, rSlLN, rSlTN, CDiv, CPow, CMul, CDivW, rNeNil, rLenO, rSplitN, rRepN, r_replC, rMulS, r_methK, rRepTN, r_cmK, rCmpO, rInO, r_ixO, r_revL, rInSelf, rCmpA, rBinO, Bool.false_xor, Bool.true_xor, r_starT, r_starL, r_cm, r_cval, selK_t, selK_f, rAppend, rIsK, reduceCtorEq, upd_same, at0, at1, at2, at3, at4, at5, at6, at7, at8, at9, at10, at11, at12, at13, ix3_0, ix3_1, ix3_2, V.int.injEq, V.bl.injEq, V.str.injEq, V.ref.injEq, Option.some.injEq, HO.lst.injEq, HO.tup.injEq, HO.ins.injEq, List.cons.injEq, and_true, true_and, exists_eq_left, exists_eq_left', exists_and_left, exists_eq', exists_eq, and_assoc, N_Path_init, ht1, h12]
        intro d H2 n2
        exact (q H2 (same_trans sm n2.same)).2.2 hall (by omega) d _ n2.at_
      · try simp only [cxK, r_lam, r_dnew, r_err, r_base, r_serr, r_var, r_c, r_seq, r_next, r_break, r_cont, r_drop, r_ret, r_retN, r_if, r_ife, r_asg, r_name, r_op, r_un, r_nil, r_cons, r_lst2, r_tup2, r_lc, r_for, r_ilist, r_itup, r_istr, r_irng1, r_irng2, r_ienum, r_ienumS, wipe, r_cb, r_test, r_b, r_not, r_notV, r_andV, r_orV, r_isN, r_notN, r_m1, r_m0, r_fld, sFld, putF, r_par, r_sub, r_gtup, r_gnil, r_gcons, r_sl, r_nopart, r_part, r_bm, r_bm0, r_chain, r_call, r_callK, r_meth, r_prop, r_make, r_and, r_or, andT_t, andT_f, orT_t, orT_f, ifK_t, ifK_f, ifE_t, ifE_f, andK_t, andK_f, orK_t, orK_f, L2.start, List.map_cons, List.map_nil, List.length_cons, List.length_nil, List.replicate_succ, List.replicate_zero, List.cons_append, List.nil_append, List.getElem?_cons_succ, List.getElem?_cons_zero, List.set_cons_succ, List.set_cons_zero, Nat.reduceAdd, Nat.reduceSub, Nat.zero_add, decide_true, decide_false, Bool.not_true, Bool.not_false, if_true, if_false, rEq, rNe, scal_ii, scal_ss, scal_bb, scal_is, scal_si, scal_ns, scal_ni, scal_in, scal_sn, scal_nn, rI, rI0, rU, rIxLH, rIxTH, rLenH, rLenTH, rSetL, rCatN, rTupOfN, rLstOfN, rSlLN, rSlTN, CDiv, CPow, CMul, CDivW, rNeNil, rLenO, rSplitN, rRepN, r_replC, rMulS, r_methK, rRepTN, r_cmK, rCmpO, rInO, r_ixO, r_revL, rInSelf, rCmpA, rBinO, Bool.false_xor, Bool.true_xor, r_starT, r_starL, r_cm, r_cval, selK_t, selK_f, rAppend, rIsK, reduceCtorEq, upd_same, at0, at1, at2, at3, at4, at5, at6, at7, at8, at9, at10, at11, at12, at13, ix3_0, ix3_1, ix3_2, V.int.injEq, V.bl.injEq, V.str.injEq, V.ref.injEq, Option.some.injEq, HO.lst.injEq, HO.tup.injEq, HO.ins.injEq, List.cons.injEq, and_true, true_and, exists_eq_left, exists_eq_left', exists_and_left, exists_eq', exists_eq, and_assoc, N_Path_init, ht1, hp1, h12]
        exact ⟨(cls_ok (T.c.fact 14 (f := fCls "Path") rfl)), (noat_ok (T.c.fact 15 (f := fNo "Path" "names") rfl)), by decide, (q H1 sm).1 hall (by omega)⟩
theorem ok_Path_init (T : Tx fa fn K mg) : Fn gd P w K mg base 3 (aM "Path" "__init__" K) [] (fun vs H Q E => ∃ ws rest, vs = ws ++ rest ∧ ws.length = 1 ∧ rest.length ≤ sizeLine ∧ ∀ t, H t = Option.none → spInit K (ws ++ [V.ref t]) (upd H t (.tup rest)) Q E) :=
  (ok_Path_initX T).imp fun vs H Q E ⟨ws, rest, e1, e2, e3, h⟩ => ⟨ws, rest, e1, e2, e3, fun t nt => by
    obtain ⟨p, t2, dx, ns, f1, f2, f3, f4, f5, f6⟩ := h t nt
    have al : (List.replicate ns.length true).all id = true := by simp
    refine ⟨p, t2, dx, ns.map V.str, List.replicate ns.length true, f1, f2, f3, by simp; omega, by simp, fun i x b hx hb => ?_, fun H' s => ⟨fun _ _ => f6 H' s, fun z => ?_, fun _ z => ?_⟩⟩
    · rw [List.getElem?_map] at hx
      obtain ⟨z, hz, rfl⟩ := Option.map_eq_some_iff.mp hx
      have hb2 := List.mem_replicate.mp (List.mem_of_getElem? hb)
      have hz2 := f5 z (List.mem_of_getElem? hz)
      exact .inl ⟨z, rfl, by have := (isNm_fits hz2).1; show z.length ≤ 16000000; omega, by rw [hb2.2, hz2]⟩
    · rw [al] at z
      cases z
    · simp at z; omega⟩
theorem path_made {K : PySem.W.Frag} {H : Hp} {ns : List Str} {Q : VK} {E : XK} (hl : ns.length ≤ 12) (hN : ∀ x ∈ ns, isNm x = true) (q : ∀ p H', Same H H' → IsPath K H' p ns → Q (.ref p) H') :
    ∀ x dx, H x = none → H dx = none → dx ≠ x → ∃ ws rest, (V.ref x :: ns.map V.str) = ws ++ rest ∧ ws.length = 1 ∧ rest.length ≤ sizeLine ∧ ∀ t, (upd (upd H dx (.own x)) x (.ins (ga K "Path") dx [])) t = Option.none →
      spInit K (ws ++ [V.ref t]) (upd (upd (upd H dx (.own x)) x (.ins (ga K "Path") dx [])) t (.tup rest)) (fun v H2 => v = .non ∧ Q (.ref x) H2) E := by
  intro x dx nx ndx ne
  refine ⟨[.ref x], ns.map V.str, rfl, rfl, fits (by simp; omega), fun t nt => ?_⟩
  have tx : x ≠ t := fun e => by
    subst e
    rw [upd_same] at nt
    cases nt
  refine ⟨x, t, dx, ns, rfl, by rw [upd_ne tx]; exact upd_same, upd_same, hl, hN, fun H' s => ⟨rfl, ?_⟩⟩
  have s0 : Same H (upd (upd (upd H dx (.own x)) x (.ins (ga K "Path") dx [])) t (.tup (ns.map V.str))) := same_trans (IsNew.same ⟨ndx, rfl⟩) (same_trans (IsNew.same ⟨by rw [upd_ne (Ne.symm ne)]; exact nx, rfl⟩) (IsNew.same ⟨nt, rfl⟩))
  refine q x _ (same_upd nx (same_trans s0 s)) ⟨dx, t, upd_same, ?_⟩
  rw [upd_ne (Ne.symm tx)]
  exact s _ _ upd_same
theorem path_made2 {K : PySem.W.Frag} {H : Hp} {ns : List Str} {Q : Addr → Hp → Prop} {E : XK} (hl : ns.length ≤ 12) (hN : ∀ x ∈ ns, isNm x = true) (q : ∀ p H', Same H H' → IsPath K H' p ns → Q p H') :
    ∀ x dx, H x = none → H dx = none → dx ≠ x → ∃ ws rest, (V.ref x :: ns.map V.str) = ws ++ rest ∧ ws.length = 1 ∧ rest.length ≤ sizeLine ∧ ∀ t, (upd (upd H dx (.own x)) x (.ins (ga K "Path") dx [])) t = Option.none →
      spInit K (ws ++ [V.ref t]) (upd (upd (upd H dx (.own x)) x (.ins (ga K "Path") dx [])) t (.tup rest)) (fun v H2 => v = .non ∧ Q x H2) E :=
  by
    intro x dx a b c
    obtain ⟨ws, rest, e1, e2, e3, k⟩ := path_made (E := E) (Q := fun v H' => ∃ p, v = .ref p ∧ Q p H') hl hN (fun p H' s h => ⟨p, rfl, q p H' s h⟩) x dx a b c
    refine ⟨ws, rest, e1, e2, e3, fun t nt => ?_⟩
    obtain ⟨p, t', dx', ms, f1, f2, f3, f4, f5, f6⟩ := k t nt
    refine ⟨p, t', dx', ms, f1, f2, f3, f4, f5, fun H' s => ?_⟩
    obtain ⟨g1, y, g2, g3⟩ := f6 H' s
    cases g2
    exact ⟨g1, g3⟩
def lastOf (ns : List Str) : Str := (ns[ns.length - 1]?).getD ""
theorem nms_of {ns : List Str} (hl : ns.length ≤ 12) (hN : ∀ x ∈ ns, isNm x = true) : Nms ns := ⟨by omega, fun x hx => ⟨(isNm_fits (hN x hx)).2.1, by have := (isNm_fits (hN x hx)).1; omega⟩⟩
theorem last_ok {ns : List Str} (h : Nms ns) : PyData.strOk (lastOf ns) = true ∧ (lastOf ns).length ≤ 1000 := by
  unfold lastOf
  cases e : ns[ns.length - 1]? with
  | none => exact ⟨by decide +kernel, by decide +kernel⟩
  | some v => exact h.2 v (List.mem_of_getElem? e)
/-- a property that gives a text -/
def spStr (f : List Str → Str) (K : PySem.W.Frag) : Sp := fun vs H Q _ => ∃ (p : Addr) (ns : List Str), vs = [.ref p] ∧ IsPath K H p ns ∧ Nms ns ∧ ∀ H', Same H H' → Q (.str (f ns)) H'
theorem ok_Path_name (T : Tx fa fn K mg) : Fn gd P w K mg base 1 (aP "Path" "name" K) [] (spStr lastOf K) := by
  obtain ⟨fd, F⟩ := F_Path_name T
  refine fn_all F sc_Path_name (fun vs H Q E h => ?_) (b_Path_name F) (fun cdv A outer s H vs Q E hr h => ⟨_, (pss_one (ps_ret (pe_ifExp (pt_cmpR (op_neD hr.r.units) (pe_fld (pv 0) rfl) (pe_tup pa_nil) (nomark _)) (pe_ix ix_th (pe_fld (pv 0) rfl) (pe_un un_neg pe_int) (fun _ _ => rfl)) pe_str))), ?_⟩)
  · first | (obtain ⟨_, e, _⟩ := h; subst e; rfl) | (obtain ⟨_, _, e, _⟩ := h; subst e; rfl) | (obtain ⟨_, _, _, e, _⟩ := h; subst e; rfl) | (obtain ⟨_, _, _, _, e, _⟩ := h; subst e; rfl) | (obtain ⟨_, _, _, _, _, e, _⟩ := h; subst e; rfl) | (obtain ⟨_, _, _, _, _, _, e, _⟩ := h; subst e; rfl) | (obtain ⟨_, _, _, _, _, _, _, e, _⟩ := h; subst e; rfl) | (obtain ⟨_, _, _, _, _, _, _, _, e, _⟩ := h; subst e; rfl) | (obtain ⟨_, _, _, _, _, _, _, _, _, e, _⟩ := h; subst e; rfl) | (obtain ⟨_, _, _, _, _, _, _, _, _, _, e, _⟩ := h; subst e; rfl) | (obtain ⟨_, _, _, _, _, _, _, _, _, _, _, e, _⟩ := h; subst e; rfl)
  obtain ⟨p, ns, rfl, ⟨dx, t, hp, ht⟩, hN, q⟩ := h
  try simp only [cxK, r_lam, r_dnew, r_err, r_base, r_serr, r_var, r_c, r_seq, r_next, r_break, r_cont, r_drop, r_ret, r_retN, r_if, r_ife, r_asg, r_name, r_op, r_un, r_nil, r_cons, r_lst2, r_tup2, r_lc, r_for, r_ilist, r_itup, r_istr, r_irng1, r_irng2, r_ienum, r_ienumS, wipe, r_cb, r_test, r_b, r_not, r_notV, r_andV, r_orV, r_isN, r_notN, r_m1, r_m0, r_fld, sFld, putF, r_par, r_sub, r_gtup, r_gnil, r_gcons, r_sl, r_nopart, r_part, r_bm, r_bm0, r_chain, r_call, r_callK, r_meth, r_prop, r_make, r_and, r_or, andT_t, andT_f, orT_t, orT_f, ifK_t, ifK_f, ifE_t, ifE_f, andK_t, andK_f, orK_t, orK_f, L2.start, List.map_cons, List.map_nil, List.length_cons, List.length_nil, List.replicate_succ, List.replicate_zero, List.cons_append, List.nil_append, List.getElem?_cons_succ, List.getElem?_cons_zero, List.set_cons_succ, List.set_cons_zero, Nat.reduceAdd, Nat.reduceSub, Nat.zero_add, decide_true, decide_false, Bool.not_true, Bool.not_false, if_true, if_false, rEq, rNe, scal_ii, scal_ss, scal_bb, scal_is, scal_si, scal_ns, scal_ni, scal_in, scal_sn, scal_nn, rI, rI0, rU, rIxLH, rIxTH, rLenH, rLenTH, rSetL, rCatN, rTupOfN, rLstOfN, rSlLN, rSlTN, CDiv, CPow, CMul, CDivW, rNeNil, rLenO, rSplitN, rRepN, r_replC, rMulS, r_methK, rRepTN, r_cmK, rCmpO, rInO, r_ixO, r_revL, rInSelf, rCmpA, rBinO, Bool.false_xor, Bool.true_xor, r_starT, r_starL, r_cm, r_cval, selK_t, selK_f, rAppend, rIsK, reduceCtorEq, upd_same, at0, at1, at2, at3, at4, at5, at6, at7, at8, at9, at10, at11, at12, at13, ix3_0, ix3_1, ix3_2, V.int.injEq, V.bl.injEq, V.str.injEq, V.ref.injEq, Option.some.injEq, HO.lst.injEq, HO.tup.injEq, HO.ins.injEq, List.cons.injEq, and_true, true_and, exists_eq_left, exists_eq_left', exists_and_left, exists_eq', exists_eq, and_assoc, N_Path_name, hp]
  refine ⟨(cls_ok (T.c.fact 14 (f := fCls "Path") rfl)), (noat_ok (T.c.fact 15 (f := fNo "Path" "names") rfl)), _, rfl, fits (by decide), fun l H1 n1 => ?_⟩
  have hp1 := n1.old hp
  have ht1 := n1.old ht
  have he : ([] : List V) = ([] : List Str).map V.str := rfl
  have hl1 := n1.at_
  rw [he] at hl1
  refine neD_strT ht1 hl1 hN.ok (fun _ h => nomatch h) ?_
  try simp only [cxK, r_lam, r_dnew, r_err, r_base, r_serr, r_var, r_c, r_seq, r_next, r_break, r_cont, r_drop, r_ret, r_retN, r_if, r_ife, r_asg, r_name, r_op, r_un, r_nil, r_cons, r_lst2, r_tup2, r_lc, r_for, r_ilist, r_itup, r_istr, r_irng1, r_irng2, r_ienum, r_ienumS, wipe, r_cb, r_test, r_b, r_not, r_notV, r_andV, r_orV, r_isN, r_notN, r_m1, r_m0, r_fld, sFld, putF, r_par, r_sub, r_gtup, r_gnil, r_gcons, r_sl, r_nopart, r_part, r_bm, r_bm0, r_chain, r_call, r_callK, r_meth, r_prop, r_make, r_and, r_or, andT_t, andT_f, orT_t, orT_f, ifK_t, ifK_f, ifE_t, ifE_f, andK_t, andK_f, orK_t, orK_f, L2.start, List.map_cons, List.map_nil, List.length_cons, List.length_nil, List.replicate_succ, List.replicate_zero, List.cons_append, List.nil_append, List.getElem?_cons_succ, List.getElem?_cons_zero, List.set_cons_succ, List.set_cons_zero, Nat.reduceAdd, Nat.reduceSub, Nat.zero_add, decide_true, decide_false, Bool.not_true, Bool.not_false, if_true, if_false, rEq, rNe, scal_ii, scal_ss, scal_bb, scal_is, scal_si, scal_ns, scal_ni, scal_in, scal_sn, scal_nn, rI, rI0, rU, rIxLH, rIxTH, rLenH, rLenTH, rSetL, rCatN, rTupOfN, rLstOfN, rSlLN, rSlTN, CDiv, CPow, CMul, CDivW, rNeNil, rLenO, rSplitN, rRepN, r_replC, rMulS, r_methK, rRepTN, r_cmK, rCmpO, rInO, r_ixO, r_revL, rInSelf, rCmpA, rBinO, Bool.false_xor, Bool.true_xor, r_starT, r_starL, r_cm, r_cval, selK_t, selK_f, rAppend, rIsK, reduceCtorEq, upd_same, at0, at1, at2, at3, at4, at5, at6, at7, at8, at9, at10, at11, at12, at13, ix3_0, ix3_1, ix3_2, V.int.injEq, V.bl.injEq, V.str.injEq, V.ref.injEq, Option.some.injEq, HO.lst.injEq, HO.tup.injEq, HO.ins.injEq, List.cons.injEq, and_true, true_and, exists_eq_left, exists_eq_left', exists_and_left, exists_eq', exists_eq, and_assoc, N_Path_name]
  by_cases hn : ns = []
  · subst hn
    try simp only [cxK, r_lam, r_dnew, r_err, r_base, r_serr, r_var, r_c, r_seq, r_next, r_break, r_cont, r_drop, r_ret, r_retN, r_if, r_ife, r_asg, r_name, r_op, r_un, r_nil, r_cons, r_lst2, r_tup2, r_lc, r_for, r_ilist, r_itup, r_istr, r_irng1, r_irng2, r_ienum, r_ienumS, wipe, r_cb, r_test, r_b, r_not, r_notV, r_andV, r_orV, r_isN, r_notN, r_m1, r_m0, r_fld, sFld, putF, r_par, r_sub, r_gtup, r_gnil, r_gcons, r_sl, r_nopart, r_part, r_bm, r_bm0, r_chain, r_call, r_callK, r_meth, r_prop, r_make, r_and, r_or, andT_t, andT_f, orT_t, orT_f, ifK_t, ifK_f, ifE_t, ifE_f, andK_t, andK_f, orK_t, orK_f, L2.start, List.map_cons, List.map_nil, List.length_cons, List.length_nil, List.replicate_succ, List.replicate_zero, List.cons_append, List.nil_append, List.getElem?_cons_succ, List.getElem?_cons_zero, List.set_cons_succ, List.set_cons_zero, Nat.reduceAdd, Nat.reduceSub, Nat.zero_add, decide_true, decide_false, Bool.not_true, Bool.not_false, if_true, if_false, rEq, rNe, scal_ii, scal_ss, scal_bb, scal_is, scal_si, scal_ns, scal_ni, scal_in, scal_sn, scal_nn, rI, rI0, rU, rIxLH, rIxTH, rLenH, rLenTH, rSetL, rCatN, rTupOfN, rLstOfN, rSlLN, rSlTN, CDiv, CPow, CMul, CDivW, rNeNil, rLenO, rSplitN, rRepN, r_replC, rMulS, r_methK, rRepTN, r_cmK, rCmpO, rInO, r_ixO, r_revL, rInSelf, rCmpA, rBinO, Bool.false_xor, Bool.true_xor, r_starT, r_starL, r_cm, r_cval, selK_t, selK_f, rAppend, rIsK, reduceCtorEq, upd_same, at0, at1, at2, at3, at4, at5, at6, at7, at8, at9, at10, at11, at12, at13, ix3_0, ix3_1, ix3_2, V.int.injEq, V.bl.injEq, V.str.injEq, V.ref.injEq, Option.some.injEq, HO.lst.injEq, HO.tup.injEq, HO.ins.injEq, List.cons.injEq, and_true, true_and, exists_eq_left, exists_eq_left', exists_and_left, exists_eq', exists_eq, and_assoc, N_Path_name]
    exact q H1 n1.same
  · try simp only [cxK, r_lam, r_dnew, r_err, r_base, r_serr, r_var, r_c, r_seq, r_next, r_break, r_cont, r_drop, r_ret, r_retN, r_if, r_ife, r_asg, r_name, r_op, r_un, r_nil, r_cons, r_lst2, r_tup2, r_lc, r_for, r_ilist, r_itup, r_istr, r_irng1, r_irng2, r_ienum, r_ienumS, wipe, r_cb, r_test, r_b, r_not, r_notV, r_andV, r_orV, r_isN, r_notN, r_m1, r_m0, r_fld, sFld, putF, r_par, r_sub, r_gtup, r_gnil, r_gcons, r_sl, r_nopart, r_part, r_bm, r_bm0, r_chain, r_call, r_callK, r_meth, r_prop, r_make, r_and, r_or, andT_t, andT_f, orT_t, orT_f, ifK_t, ifK_f, ifE_t, ifE_f, andK_t, andK_f, orK_t, orK_f, L2.start, List.map_cons, List.map_nil, List.length_cons, List.length_nil, List.replicate_succ, List.replicate_zero, List.cons_append, List.nil_append, List.getElem?_cons_succ, List.getElem?_cons_zero, List.set_cons_succ, List.set_cons_zero, Nat.reduceAdd, Nat.reduceSub, Nat.zero_add, decide_true, decide_false, Bool.not_true, Bool.not_false, if_true, if_false, rEq, rNe, scal_ii, scal_ss, scal_bb, scal_is, scal_si, scal_ns, scal_ni, scal_in, scal_sn, scal_nn, rI, rI0, rU, rIxLH, rIxTH, rLenH, rLenTH, rSetL, rCatN, rTupOfN, rLstOfN, rSlLN, rSlTN, CDiv, CPow, CMul, CDivW, rNeNil, rLenO, rSplitN, rRepN, r_replC, rMulS, r_methK, rRepTN, r_cmK, rCmpO, rInO, r_ixO, r_revL, rInSelf, rCmpA, rBinO, Bool.false_xor, Bool.true_xor, r_starT, r_starL, r_cm, r_cval, selK_t, selK_f, rAppend, rIsK, reduceCtorEq, upd_same, at0, at1, at2, at3, at4, at5, at6, at7, at8, at9, at10, at11, at12, at13, ix3_0, ix3_1, ix3_2, V.int.injEq, V.bl.injEq, V.str.injEq, V.ref.injEq, Option.some.injEq, HO.lst.injEq, HO.tup.injEq, HO.ins.injEq, List.cons.injEq, and_true, true_and, exists_eq_left, exists_eq_left', exists_and_left, exists_eq', exists_eq, and_assoc, N_Path_name, hn, hp1]
    have hl : ns.length - 1 < ns.length := by have := List.length_pos_iff.mpr hn; omega
    have e : ns[ns.length - 1]? = some (lastOf ns) := by
      unfold lastOf
      rw [List.getElem?_eq_getElem hl]
      rfl
    refine ⟨(cls_ok (T.c.fact 14 (f := fCls "Path") rfl)), (noat_ok (T.c.fact 15 (f := fNo "Path" "names") rfl)), V.ref t, rfl, ?_⟩
    try simp only [cxK, r_lam, r_dnew, r_err, r_base, r_serr, r_var, r_c, r_seq, r_next, r_break, r_cont, r_drop, r_ret, r_retN, r_if, r_ife, r_asg, r_name, r_op, r_un, r_nil, r_cons, r_lst2, r_tup2, r_lc, r_for, r_ilist, r_itup, r_istr, r_irng1, r_irng2, r_ienum, r_ienumS, wipe, r_cb, r_test, r_b, r_not, r_notV, r_andV, r_orV, r_isN, r_notN, r_m1, r_m0, r_fld, sFld, putF, r_par, r_sub, r_gtup, r_gnil, r_gcons, r_sl, r_nopart, r_part, r_bm, r_bm0, r_chain, r_call, r_callK, r_meth, r_prop, r_make, r_and, r_or, andT_t, andT_f, orT_t, orT_f, ifK_t, ifK_f, ifE_t, ifE_f, andK_t, andK_f, orK_t, orK_f, L2.start, List.map_cons, List.map_nil, List.length_cons, List.length_nil, List.replicate_succ, List.replicate_zero, List.cons_append, List.nil_append, List.getElem?_cons_succ, List.getElem?_cons_zero, List.set_cons_succ, List.set_cons_zero, Nat.reduceAdd, Nat.reduceSub, Nat.zero_add, decide_true, decide_false, Bool.not_true, Bool.not_false, if_true, if_false, rEq, rNe, scal_ii, scal_ss, scal_bb, scal_is, scal_si, scal_ns, scal_ni, scal_in, scal_sn, scal_nn, rI, rI0, rU, rIxLH, rIxTH, rLenH, rLenTH, rSetL, rCatN, rTupOfN, rLstOfN, rSlLN, rSlTN, CDiv, CPow, CMul, CDivW, rNeNil, rLenO, rSplitN, rRepN, r_replC, rMulS, r_methK, rRepTN, r_cmK, rCmpO, rInO, r_ixO, r_revL, rInSelf, rCmpA, rBinO, Bool.false_xor, Bool.true_xor, r_starT, r_starL, r_cm, r_cval, selK_t, selK_f, rAppend, rIsK, reduceCtorEq, upd_same, at0, at1, at2, at3, at4, at5, at6, at7, at8, at9, at10, at11, at12, at13, ix3_0, ix3_1, ix3_2, V.int.injEq, V.bl.injEq, V.str.injEq, V.ref.injEq, Option.some.injEq, HO.lst.injEq, HO.tup.injEq, HO.ins.injEq, List.cons.injEq, and_true, true_and, exists_eq_left, exists_eq_left', exists_and_left, exists_eq', exists_eq, and_assoc, N_Path_name, ht1]
    refine ⟨.str (lastOf ns), atI_last ?_, q H1 n1.same⟩
    rw [List.length_map, List.getElem?_map, e]
    rfl
def spParent (K : PySem.W.Frag) : Sp := fun vs H Q _ => ∃ (p : Addr) (ns : List Str), vs = [.ref p] ∧ IsPath K H p ns ∧ ns.length ≤ 13 ∧ (∀ x ∈ ns, isNm x = true) ∧ ∀ H' p', Same H H' → IsPath K H' p' (ns.take (ns.length - 1)) → Q (.ref p') H'
def spLen (K : PySem.W.Frag) : Sp := fun vs H Q _ => ∃ (p : Addr) (xs : List V), vs = [.ref p] ∧ (∃ dx t, H p = some (.ins (ga K "Path") dx [("names", .ref t)]) ∧ H t = some (.tup xs)) ∧ Q (.int xs.length) H
theorem ok_Path_len (T : Tx fa fn K mg) : Fn gd P w K mg base 1 (aM "Path" "__len__" K) [] (spLen K) := by
  obtain ⟨fd, F⟩ := F_Path_len T
  refine fn_all F sc_Path_len (fun vs H Q E h => ?_) (b_Path_len F) (fun cdv A outer s H vs Q E hr h => ⟨_, (pss_one (ps_ret (pe_callB call_len_th (by rfl) (T.free (T.c.fact 0 (f := fFree "len") rfl)) (by decide +kernel) (pa_cons (pe_fld (pv 0) rfl) pa_nil)))), ?_⟩)
  · first | (obtain ⟨_, e, _⟩ := h; subst e; rfl) | (obtain ⟨_, _, e, _⟩ := h; subst e; rfl) | (obtain ⟨_, _, _, e, _⟩ := h; subst e; rfl) | (obtain ⟨_, _, _, _, e, _⟩ := h; subst e; rfl) | (obtain ⟨_, _, _, _, _, e, _⟩ := h; subst e; rfl) | (obtain ⟨_, _, _, _, _, _, e, _⟩ := h; subst e; rfl) | (obtain ⟨_, _, _, _, _, _, _, e, _⟩ := h; subst e; rfl) | (obtain ⟨_, _, _, _, _, _, _, _, e, _⟩ := h; subst e; rfl) | (obtain ⟨_, _, _, _, _, _, _, _, _, e, _⟩ := h; subst e; rfl) | (obtain ⟨_, _, _, _, _, _, _, _, _, _, e, _⟩ := h; subst e; rfl) | (obtain ⟨_, _, _, _, _, _, _, _, _, _, _, e, _⟩ := h; subst e; rfl)
  obtain ⟨p, xs, rfl, ⟨dx, t, hp, ht⟩, q⟩ := h
  try simp only [cxK, r_lam, r_dnew, r_err, r_base, r_serr, r_var, r_c, r_seq, r_next, r_break, r_cont, r_drop, r_ret, r_retN, r_if, r_ife, r_asg, r_name, r_op, r_un, r_nil, r_cons, r_lst2, r_tup2, r_lc, r_for, r_ilist, r_itup, r_istr, r_irng1, r_irng2, r_ienum, r_ienumS, wipe, r_cb, r_test, r_b, r_not, r_notV, r_andV, r_orV, r_isN, r_notN, r_m1, r_m0, r_fld, sFld, putF, r_par, r_sub, r_gtup, r_gnil, r_gcons, r_sl, r_nopart, r_part, r_bm, r_bm0, r_chain, r_call, r_callK, r_meth, r_prop, r_make, r_and, r_or, andT_t, andT_f, orT_t, orT_f, ifK_t, ifK_f, ifE_t, ifE_f, andK_t, andK_f, orK_t, orK_f, L2.start, List.map_cons, List.map_nil, List.length_cons, List.length_nil, List.replicate_succ, List.replicate_zero, List.cons_append, List.nil_append, List.getElem?_cons_succ, List.getElem?_cons_zero, List.set_cons_succ, List.set_cons_zero, Nat.reduceAdd, Nat.reduceSub, Nat.zero_add, decide_true, decide_false, Bool.not_true, Bool.not_false, if_true, if_false, rEq, rNe, scal_ii, scal_ss, scal_bb, scal_is, scal_si, scal_ns, scal_ni, scal_in, scal_sn, scal_nn, rI, rI0, rU, rIxLH, rIxTH, rLenH, rLenTH, rSetL, rCatN, rTupOfN, rLstOfN, rSlLN, rSlTN, CDiv, CPow, CMul, CDivW, rNeNil, rLenO, rSplitN, rRepN, r_replC, rMulS, r_methK, rRepTN, r_cmK, rCmpO, rInO, r_ixO, r_revL, rInSelf, rCmpA, rBinO, Bool.false_xor, Bool.true_xor, r_starT, r_starL, r_cm, r_cval, selK_t, selK_f, rAppend, rIsK, reduceCtorEq, upd_same, at0, at1, at2, at3, at4, at5, at6, at7, at8, at9, at10, at11, at12, at13, ix3_0, ix3_1, ix3_2, V.int.injEq, V.bl.injEq, V.str.injEq, V.ref.injEq, Option.some.injEq, HO.lst.injEq, HO.tup.injEq, HO.ins.injEq, List.cons.injEq, and_true, true_and, exists_eq_left, exists_eq_left', exists_and_left, exists_eq', exists_eq, and_assoc, N_Path_len, hp]
  refine ⟨(cls_ok (T.c.fact 14 (f := fCls "Path") rfl)), (noat_ok (T.c.fact 15 (f := fNo "Path" "names") rfl)), V.ref t, rfl, ?_⟩
  try simp only [cxK, r_lam, r_dnew, r_err, r_base, r_serr, r_var, r_c, r_seq, r_next, r_break, r_cont, r_drop, r_ret, r_retN, r_if, r_ife, r_asg, r_name, r_op, r_un, r_nil, r_cons, r_lst2, r_tup2, r_lc, r_for, r_ilist, r_itup, r_istr, r_irng1, r_irng2, r_ienum, r_ienumS, wipe, r_cb, r_test, r_b, r_not, r_notV, r_andV, r_orV, r_isN, r_notN, r_m1, r_m0, r_fld, sFld, putF, r_par, r_sub, r_gtup, r_gnil, r_gcons, r_sl, r_nopart, r_part, r_bm, r_bm0, r_chain, r_call, r_callK, r_meth, r_prop, r_make, r_and, r_or, andT_t, andT_f, orT_t, orT_f, ifK_t, ifK_f, ifE_t, ifE_f, andK_t, andK_f, orK_t, orK_f, L2.start, List.map_cons, List.map_nil, List.length_cons, List.length_nil, List.replicate_succ, List.replicate_zero, List.cons_append, List.nil_append, List.getElem?_cons_succ, List.getElem?_cons_zero, List.set_cons_succ, List.set_cons_zero, Nat.reduceAdd, Nat.reduceSub, Nat.zero_add, decide_true, decide_false, Bool.not_true, Bool.not_false, if_true, if_false, rEq, rNe, scal_ii, scal_ss, scal_bb, scal_is, scal_si, scal_ns, scal_ni, scal_in, scal_sn, scal_nn, rI, rI0, rU, rIxLH, rIxTH, rLenH, rLenTH, rSetL, rCatN, rTupOfN, rLstOfN, rSlLN, rSlTN, CDiv, CPow, CMul, CDivW, rNeNil, rLenO, rSplitN, rRepN, r_replC, rMulS, r_methK, rRepTN, r_cmK, rCmpO, rInO, r_ixO, r_revL, rInSelf, rCmpA, rBinO, Bool.false_xor, Bool.true_xor, r_starT, r_starL, r_cm, r_cval, selK_t, selK_f, rAppend, rIsK, reduceCtorEq, upd_same, at0, at1, at2, at3, at4, at5, at6, at7, at8, at9, at10, at11, at12, at13, ix3_0, ix3_1, ix3_2, V.int.injEq, V.bl.injEq, V.str.injEq, V.ref.injEq, Option.some.injEq, HO.lst.injEq, HO.tup.injEq, HO.ins.injEq, List.cons.injEq, and_true, true_and, exists_eq_left, exists_eq_left', exists_and_left, exists_eq', exists_eq, and_assoc, N_Path_len, ht]
  exact q

end

section
variable {gd : Bool} {P : Program} {w : World} {K : PySem.W.Frag} {mg : Str → Option Value} {base : Heap}

theorem Src.upd {H : Hp} {a D : Addr} {j : Int} {o : HO} (h : Src H a j) (n : H D = none ∨ a ≠ D) : Src (upd H D o) a j := by
  obtain ⟨c, d, e, z⟩ := h
  refine ⟨c, d, ?_, z⟩
  rw [upd_ne (fun q => ?_)]
  · exact e
  · rcases n with n | n
    · subst q
      rw [n] at e
      cases e
    · exact n q
theorem Src.ne {H : Hp} {a p : Addr} {j : Int} (h : Src H a j) (n : H p = none) : a ≠ p := fun e => by
  obtain ⟨c, d, q, z⟩ := h
  subst e
  rw [n] at q
  cases q
theorem Src.same {H H' : Hp} {a : Addr} {j : Int} (h : Src H a j) (s : Same H H') : Src H' a j := let ⟨c, d, e, z⟩ := h; ⟨c, d, s _ _ e, z⟩
def spGood : Sp := fun vs H Q _ => ∃ (a : Addr) (j : Int), vs = [.ref a] ∧ Src H a j ∧ j < 1099511627776 ∧ ∀ (z : Str) (j' : Int) (H' : Hp), isNm z = true → j ≤ j' → j' ≤ j + 1 → Oth a H H' → Src H' a j' → Q (.str z) H'
def goods : List Str := ["a", "b", "ab", "x.y", ".a", "a.", "a.b.c", "-", "_", "0", "abcdefghijkl", "a..b", "...", "..a", "a_1"]
def goodsN : List Str := ([[97], [98], [97, 98], [120, 46, 121], [46, 97], [97, 46], [97, 46, 98, 46, 99], [45], [95], [48], [97, 98, 99, 100, 101, 102, 103, 104, 105, 106, 107, 108], [97, 46, 46, 98], [46, 46, 46], [46, 46, 97], [97, 95, 49]] : List (List Nat)).map fun l => ⟨l.toArray⟩
theorem goods_eq : goods = goodsN := by decide +kernel
theorem goods_nm : ∀ x ∈ goods, isNm x = true := by
  rw [goods_eq]
  decide +kernel
theorem goods_len : (goods.map V.str).length = 15 := rfl
theorem ok_law_good_name (T : Tx fa fn K mg) : Fn gd P w K mg base 3 (aG "_law_good_name" K) [] spGood := by
  obtain ⟨fd, F⟩ := F_law_good_name T
  refine fn_all F sc_law_good_name (fun vs H Q E h => ?_) (b_law_good_name F) (fun cdv A outer s H vs Q E hr h => ⟨_, (pss_cons (ps_set (i := 1) sc_law_good_name.nd rfl (Or.inl rfl) (pe_lst (pa_cons pe_str (pa_cons pe_str (pa_cons pe_str (pa_cons pe_str (pa_cons pe_str (pa_cons pe_str (pa_cons pe_str (pa_cons pe_str (pa_cons pe_str (pa_cons pe_str (pa_cons pe_str (pa_cons pe_str (pa_cons pe_str (pa_cons pe_str (pa_cons pe_str pa_nil)))))))))))))))))
 (pss_one (ps_ret (pe_fn (ok_law_pick T) (hr.mono (by decide)) rfl (g_law_pick T) (k_law_pick T) passD (pa_cons (pv 0) (pa_cons (pv 1) pa_nil)))))), ?_⟩)
  · first | (obtain ⟨_, e, _⟩ := h; subst e; rfl) | (obtain ⟨_, _, e, _⟩ := h; subst e; rfl) | (obtain ⟨_, _, _, e, _⟩ := h; subst e; rfl) | (obtain ⟨_, _, _, _, e, _⟩ := h; subst e; rfl) | (obtain ⟨_, _, _, _, _, e, _⟩ := h; subst e; rfl) | (obtain ⟨_, _, _, _, _, _, e, _⟩ := h; subst e; rfl) | (obtain ⟨_, _, _, _, _, _, _, e, _⟩ := h; subst e; rfl) | (obtain ⟨_, _, _, _, _, _, _, _, e, _⟩ := h; subst e; rfl) | (obtain ⟨_, _, _, _, _, _, _, _, _, e, _⟩ := h; subst e; rfl) | (obtain ⟨_, _, _, _, _, _, _, _, _, _, e, _⟩ := h; subst e; rfl) | (obtain ⟨_, _, _, _, _, _, _, _, _, _, _, e, _⟩ := h; subst e; rfl)
  obtain ⟨a, j, rfl, hs, j1, q⟩ := h
  try simp only [cxK, r_lam, r_dnew, r_err, r_base, r_serr, r_var, r_c, r_seq, r_next, r_break, r_cont, r_drop, r_ret, r_retN, r_if, r_ife, r_asg, r_name, r_op, r_un, r_nil, r_cons, r_lst2, r_tup2, r_lc, r_for, r_ilist, r_itup, r_istr, r_irng1, r_irng2, r_ienum, r_ienumS, wipe, r_cb, r_test, r_b, r_not, r_notV, r_andV, r_orV, r_isN, r_notN, r_m1, r_m0, r_fld, sFld, putF, r_par, r_sub, r_gtup, r_gnil, r_gcons, r_sl, r_nopart, r_part, r_bm, r_bm0, r_chain, r_call, r_callK, r_meth, r_prop, r_make, r_and, r_or, andT_t, andT_f, orT_t, orT_f, ifK_t, ifK_f, ifE_t, ifE_f, andK_t, andK_f, orK_t, orK_f, L2.start, List.map_cons, List.map_nil, List.length_cons, List.length_nil, List.replicate_succ, List.replicate_zero, List.cons_append, List.nil_append, List.getElem?_cons_succ, List.getElem?_cons_zero, List.set_cons_succ, List.set_cons_zero, Nat.reduceAdd, Nat.reduceSub, Nat.zero_add, decide_true, decide_false, Bool.not_true, Bool.not_false, if_true, if_false, rEq, rNe, scal_ii, scal_ss, scal_bb, scal_is, scal_si, scal_ns, scal_ni, scal_in, scal_sn, scal_nn, rI, rI0, rU, rIxLH, rIxTH, rLenH, rLenTH, rSetL, rCatN, rTupOfN, rLstOfN, rSlLN, rSlTN, CDiv, CPow, CMul, CDivW, rNeNil, rLenO, rSplitN, rRepN, r_replC, rMulS, r_methK, rRepTN, r_cmK, rCmpO, rInO, r_ixO, r_revL, rInSelf, rCmpA, rBinO, Bool.false_xor, Bool.true_xor, r_starT, r_starL, r_cm, r_cval, selK_t, selK_f, rAppend, rIsK, reduceCtorEq, upd_same, at0, at1, at2, at3, at4, at5, at6, at7, at8, at9, at10, at11, at12, at13, ix3_0, ix3_1, ix3_2, V.int.injEq, V.bl.injEq, V.str.injEq, V.ref.injEq, Option.some.injEq, HO.lst.injEq, HO.tup.injEq, HO.ins.injEq, List.cons.injEq, and_true, true_and, exists_eq_left, exists_eq_left', exists_and_left, exists_eq', exists_eq, and_assoc, N_law_good_name]
  refine ⟨fits (by decide), fun l H1 n1 => ?_⟩
  try simp only [cxK, r_lam, r_dnew, r_err, r_base, r_serr, r_var, r_c, r_seq, r_next, r_break, r_cont, r_drop, r_ret, r_retN, r_if, r_ife, r_asg, r_name, r_op, r_un, r_nil, r_cons, r_lst2, r_tup2, r_lc, r_for, r_ilist, r_itup, r_istr, r_irng1, r_irng2, r_ienum, r_ienumS, wipe, r_cb, r_test, r_b, r_not, r_notV, r_andV, r_orV, r_isN, r_notN, r_m1, r_m0, r_fld, sFld, putF, r_par, r_sub, r_gtup, r_gnil, r_gcons, r_sl, r_nopart, r_part, r_bm, r_bm0, r_chain, r_call, r_callK, r_meth, r_prop, r_make, r_and, r_or, andT_t, andT_f, orT_t, orT_f, ifK_t, ifK_f, ifE_t, ifE_f, andK_t, andK_f, orK_t, orK_f, L2.start, List.map_cons, List.map_nil, List.length_cons, List.length_nil, List.replicate_succ, List.replicate_zero, List.cons_append, List.nil_append, List.getElem?_cons_succ, List.getElem?_cons_zero, List.set_cons_succ, List.set_cons_zero, Nat.reduceAdd, Nat.reduceSub, Nat.zero_add, decide_true, decide_false, Bool.not_true, Bool.not_false, if_true, if_false, rEq, rNe, scal_ii, scal_ss, scal_bb, scal_is, scal_si, scal_ns, scal_ni, scal_in, scal_sn, scal_nn, rI, rI0, rU, rIxLH, rIxTH, rLenH, rLenTH, rSetL, rCatN, rTupOfN, rLstOfN, rSlLN, rSlTN, CDiv, CPow, CMul, CDivW, rNeNil, rLenO, rSplitN, rRepN, r_replC, rMulS, r_methK, rRepTN, r_cmK, rCmpO, rInO, r_ixO, r_revL, rInSelf, rCmpA, rBinO, Bool.false_xor, Bool.true_xor, r_starT, r_starL, r_cm, r_cval, selK_t, selK_f, rAppend, rIsK, reduceCtorEq, upd_same, at0, at1, at2, at3, at4, at5, at6, at7, at8, at9, at10, at11, at12, at13, ix3_0, ix3_1, ix3_2, V.int.injEq, V.bl.injEq, V.str.injEq, V.ref.injEq, Option.some.injEq, HO.lst.injEq, HO.tup.injEq, HO.ins.injEq, List.cons.injEq, and_true, true_and, exists_eq_left, exists_eq_left', exists_and_left, exists_eq', exists_eq, and_assoc, N_law_good_name]
  have hat : H1 l = some (.lst (goods.map V.str)) := n1.at_
  refine ⟨a, l, j, goods.map V.str, rfl, fun e => hs.ne n1.1 e.symm, hat, by rw [goods_len]; omega, by rw [goods_len]; omega, hs.same n1.same, j1, fun i v j' H' hi j2 j3 ho hs' => ?_⟩
  rw [List.getElem?_map] at hi
  obtain ⟨z, hz, rfl⟩ := Option.map_eq_some_iff.mp hi
  exact q z j' H' (goods_nm z (List.mem_of_getElem? hz)) j2 j3 (Oth.trans (Oth.of n1.same) ho) hs'
def spRow : Sp := fun vs H Q _ => ∃ (a : Addr) (m j : Int), vs = [.ref a, .int m] ∧ 0 ≤ m ∧ m ≤ 1000 ∧ Src H a j ∧ j < 1000000000000 ∧
  ∀ (ns : List Str) (p : Addr) (j' : Int) (H' : Hp), (ns.length : Int) ≤ m → (∀ x ∈ ns, isNm x = true) → H p = none → j ≤ j' → j' ≤ j + 1 + m → Oth a H H' → Src H' a j' → H' p = some (.lst (ns.map V.str)) → Q (.ref p) H'
def RowPv (H : Hp) (a : Addr) (j : Int) (D : Addr) (i : Nat) (acc : List V) (H2 : Hp) : Prop := ∃ (ns : List Str) (j2 : Int), acc = ns.map V.str ∧ (∀ x ∈ ns, isNm x = true) ∧ j ≤ j2 ∧ j2 ≤ j + 1 + i ∧ Oth a H H2 ∧ Src H2 a j2 ∧ H D = none
theorem ok_law_row (T : Tx fa fn K mg) : Fn gd P w K mg base 4 (aG "_law_row" K) [] spRow := by
  obtain ⟨fd, F⟩ := F_law_row T
  refine fn_all F sc_law_row (fun vs H Q E h => ?_) (b_law_row F) (fun cdv A outer s H vs Q E hr h => ⟨_, (pss_one (ps_ret (pe_lc (own := [("_law_turn", 2)]) (g := gName 2) (tt := tYes) rfl sc_law_row.nd (pi_range1 (by rfl) (T.free (T.c.fact 16 (f := fFree "range") rfl)) (pa_cons (pe_fn (ok_law_next T) (hr.mono (by decide)) rfl (g_law_next T) (k_law_next T) passD (pa_cons (pv 0) (pa_cons (pe_op op_add (pv 1) pe_int) pa_nil))) pa_nil)) (blkOk_by (own := [("_law_turn", 2)]) (N := N_law_row) (sc := defScope s_law_row) (by decide +kernel)) (fun _ _ _ _ _ => (pg_name (i := 2) sc_law_row.nd rfl (Or.inl rfl))) (fun _ _ _ _ _ => pts_nil) (fun _ _ _ _ _ => (pe_fn (ok_law_good_name T) (hr.mono (by decide)) rfl (g_law_good_name T) (k_law_good_name T) passL (pa_cons (pv 0) pa_nil)))))), ?_⟩)
  · first | (obtain ⟨_, e, _⟩ := h; subst e; rfl) | (obtain ⟨_, _, e, _⟩ := h; subst e; rfl) | (obtain ⟨_, _, _, e, _⟩ := h; subst e; rfl) | (obtain ⟨_, _, _, _, e, _⟩ := h; subst e; rfl) | (obtain ⟨_, _, _, _, _, e, _⟩ := h; subst e; rfl) | (obtain ⟨_, _, _, _, _, _, e, _⟩ := h; subst e; rfl) | (obtain ⟨_, _, _, _, _, _, _, e, _⟩ := h; subst e; rfl) | (obtain ⟨_, _, _, _, _, _, _, _, e, _⟩ := h; subst e; rfl) | (obtain ⟨_, _, _, _, _, _, _, _, _, e, _⟩ := h; subst e; rfl) | (obtain ⟨_, _, _, _, _, _, _, _, _, _, e, _⟩ := h; subst e; rfl) | (obtain ⟨_, _, _, _, _, _, _, _, _, _, _, e, _⟩ := h; subst e; rfl)
  obtain ⟨a, m, j, rfl, m0, m1, hs, j1, q⟩ := h
  try simp only [cxK, r_lam, r_dnew, r_err, r_base, r_serr, r_var, r_c, r_seq, r_next, r_break, r_cont, r_drop, r_ret, r_retN, r_if, r_ife, r_asg, r_name, r_op, r_un, r_nil, r_cons, r_lst2, r_tup2, r_lc, r_for, r_ilist, r_itup, r_istr, r_irng1, r_irng2, r_ienum, r_ienumS, wipe, r_cb, r_test, r_b, r_not, r_notV, r_andV, r_orV, r_isN, r_notN, r_m1, r_m0, r_fld, sFld, putF, r_par, r_sub, r_gtup, r_gnil, r_gcons, r_sl, r_nopart, r_part, r_bm, r_bm0, r_chain, r_call, r_callK, r_meth, r_prop, r_make, r_and, r_or, andT_t, andT_f, orT_t, orT_f, ifK_t, ifK_f, ifE_t, ifE_f, andK_t, andK_f, orK_t, orK_f, L2.start, List.map_cons, List.map_nil, List.length_cons, List.length_nil, List.replicate_succ, List.replicate_zero, List.cons_append, List.nil_append, List.getElem?_cons_succ, List.getElem?_cons_zero, List.set_cons_succ, List.set_cons_zero, Nat.reduceAdd, Nat.reduceSub, Nat.zero_add, decide_true, decide_false, Bool.not_true, Bool.not_false, if_true, if_false, rEq, rNe, scal_ii, scal_ss, scal_bb, scal_is, scal_si, scal_ns, scal_ni, scal_in, scal_sn, scal_nn, rI, rI0, rU, rIxLH, rIxTH, rLenH, rLenTH, rSetL, rCatN, rTupOfN, rLstOfN, rSlLN, rSlTN, CDiv, CPow, CMul, CDivW, rNeNil, rLenO, rSplitN, rRepN, r_replC, rMulS, r_methK, rRepTN, r_cmK, rCmpO, rInO, r_ixO, r_revL, rInSelf, rCmpA, rBinO, Bool.false_xor, Bool.true_xor, r_starT, r_starL, r_cm, r_cval, selK_t, selK_f, rAppend, rIsK, reduceCtorEq, upd_same, at0, at1, at2, at3, at4, at5, at6, at7, at8, at9, at10, at11, at12, at13, ix3_0, ix3_1, ix3_2, V.int.injEq, V.bl.injEq, V.str.injEq, V.ref.injEq, Option.some.injEq, HO.lst.injEq, HO.tup.injEq, HO.ins.injEq, List.cons.injEq, and_true, true_and, exists_eq_left, exists_eq_left', exists_and_left, exists_eq', exists_eq, and_assoc, N_law_row]
  refine ⟨a, m + 1, j, rfl, by omega, by omega, hs, by omega, fun r j' H' r0 r1 j2 j3 ho hs' => ?_⟩
  try simp only [cxK, r_lam, r_dnew, r_err, r_base, r_serr, r_var, r_c, r_seq, r_next, r_break, r_cont, r_drop, r_ret, r_retN, r_if, r_ife, r_asg, r_name, r_op, r_un, r_nil, r_cons, r_lst2, r_tup2, r_lc, r_for, r_ilist, r_itup, r_istr, r_irng1, r_irng2, r_ienum, r_ienumS, wipe, r_cb, r_test, r_b, r_not, r_notV, r_andV, r_orV, r_isN, r_notN, r_m1, r_m0, r_fld, sFld, putF, r_par, r_sub, r_gtup, r_gnil, r_gcons, r_sl, r_nopart, r_part, r_bm, r_bm0, r_chain, r_call, r_callK, r_meth, r_prop, r_make, r_and, r_or, andT_t, andT_f, orT_t, orT_f, ifK_t, ifK_f, ifE_t, ifE_f, andK_t, andK_f, orK_t, orK_f, L2.start, List.map_cons, List.map_nil, List.length_cons, List.length_nil, List.replicate_succ, List.replicate_zero, List.cons_append, List.nil_append, List.getElem?_cons_succ, List.getElem?_cons_zero, List.set_cons_succ, List.set_cons_zero, Nat.reduceAdd, Nat.reduceSub, Nat.zero_add, decide_true, decide_false, Bool.not_true, Bool.not_false, if_true, if_false, rEq, rNe, scal_ii, scal_ss, scal_bb, scal_is, scal_si, scal_ns, scal_ni, scal_in, scal_sn, scal_nn, rI, rI0, rU, rIxLH, rIxTH, rLenH, rLenTH, rSetL, rCatN, rTupOfN, rLstOfN, rSlLN, rSlTN, CDiv, CPow, CMul, CDivW, rNeNil, rLenO, rSplitN, rRepN, r_replC, rMulS, r_methK, rRepTN, r_cmK, rCmpO, rInO, r_ixO, r_revL, rInSelf, rCmpA, rBinO, Bool.false_xor, Bool.true_xor, r_starT, r_starL, r_cm, r_cval, selK_t, selK_f, rAppend, rIsK, reduceCtorEq, upd_same, at0, at1, at2, at3, at4, at5, at6, at7, at8, at9, at10, at11, at12, at13, ix3_0, ix3_1, ix3_2, V.int.injEq, V.bl.injEq, V.str.injEq, V.ref.injEq, Option.some.injEq, HO.lst.injEq, HO.tup.injEq, HO.ins.injEq, List.cons.injEq, and_true, true_and, exists_eq_left, exists_eq_left', exists_and_left, exists_eq', exists_eq, and_assoc, N_law_row]
  refine ⟨by omega, by omega, ?_⟩
  refine lcK_rng (RowPv H a j) ?_ ?_ ?_
  · intro D H0 n0
    refine ⟨[], j', rfl, (fun _ h => nomatch h), j2, by simpa using j3, Oth.new ho n0, hs'.same n0.same, ?_⟩
    cases e : H D with
    | none => rfl
    | some o =>
      have hD := ho D o (fun z => hs'.ne n0.1 z.symm) e
      rw [n0.1] at hD
      cases hD
  · rintro D i acc H2 nD hi hD hl ⟨ns, j4, rfl, hN, j5, j6, ho2, hs2, nD0⟩
    try simp only [cxK, r_lam, r_dnew, r_err, r_base, r_serr, r_var, r_c, r_seq, r_next, r_break, r_cont, r_drop, r_ret, r_retN, r_if, r_ife, r_asg, r_name, r_op, r_un, r_nil, r_cons, r_lst2, r_tup2, r_lc, r_for, r_ilist, r_itup, r_istr, r_irng1, r_irng2, r_ienum, r_ienumS, wipe, r_cb, r_test, r_b, r_not, r_notV, r_andV, r_orV, r_isN, r_notN, r_m1, r_m0, r_fld, sFld, putF, r_par, r_sub, r_gtup, r_gnil, r_gcons, r_sl, r_nopart, r_part, r_bm, r_bm0, r_chain, r_call, r_callK, r_meth, r_prop, r_make, r_and, r_or, andT_t, andT_f, orT_t, orT_f, ifK_t, ifK_f, ifE_t, ifE_f, andK_t, andK_f, orK_t, orK_f, L2.start, List.map_cons, List.map_nil, List.length_cons, List.length_nil, List.replicate_succ, List.replicate_zero, List.cons_append, List.nil_append, List.getElem?_cons_succ, List.getElem?_cons_zero, List.set_cons_succ, List.set_cons_zero, Nat.reduceAdd, Nat.reduceSub, Nat.zero_add, decide_true, decide_false, Bool.not_true, Bool.not_false, if_true, if_false, rEq, rNe, scal_ii, scal_ss, scal_bb, scal_is, scal_si, scal_ns, scal_ni, scal_in, scal_sn, scal_nn, rI, rI0, rU, rIxLH, rIxTH, rLenH, rLenTH, rSetL, rCatN, rTupOfN, rLstOfN, rSlLN, rSlTN, CDiv, CPow, CMul, CDivW, rNeNil, rLenO, rSplitN, rRepN, r_replC, rMulS, r_methK, rRepTN, r_cmK, rCmpO, rInO, r_ixO, r_revL, rInSelf, rCmpA, rBinO, Bool.false_xor, Bool.true_xor, r_starT, r_starL, r_cm, r_cval, selK_t, selK_f, rAppend, rIsK, reduceCtorEq, upd_same, at0, at1, at2, at3, at4, at5, at6, at7, at8, at9, at10, at11, at12, at13, ix3_0, ix3_1, ix3_2, V.int.injEq, V.bl.injEq, V.str.injEq, V.ref.injEq, Option.some.injEq, HO.lst.injEq, HO.tup.injEq, HO.ins.injEq, List.cons.injEq, and_true, true_and, exists_eq_left, exists_eq_left', exists_and_left, exists_eq', exists_eq, and_assoc, N_law_row]
    have aD : D ≠ a := fun e => by
      obtain ⟨c, d, e2, _⟩ := hs2
      rw [e, e2] at hD
      cases ns with
      | nil => cases hD
      | cons x r => cases hD
    refine ⟨a, j4, rfl, hs2, by omega, fun z j7 H3 hz j8 j9 ho3 hs3 => ?_⟩
    have hD3 := ho3 D _ aD hD
    refine addK_mk hD3 hl (by omega) ⟨ns ++ [z], j7, by simp, fun x hx => ?_, by omega, by omega, Oth.fresh (Oth.trans ho2 ho3) nD0, hs3.upd (.inr (Ne.symm aD)), nD0⟩
    rcases List.mem_append.mp hx with h | h
    · exact hN x h
    · simp at h
      subst h
      exact hz
  · rintro D acc H2 nD hD hl ⟨ns, j4, rfl, hN, j5, j6, ho2, hs2, nD0⟩
    have hl2 : ns.length = r.toNat := by simpa using hl
    exact q ns D j4 H2 (by omega) hN nD0 (by omega) (by omega) ho2 hs2 hD

end

section
variable {gd : Bool} {P : Program} {w : World} {K : PySem.W.Frag} {mg : Str → Option Value} {base : Heap}

/-- the words of the three errors of paths -/
def badW (K : PySem.W.Frag) : List (Addr × Str) := [(ga K "BadName", "name"), (ga K "BadPath", "path"), (ga K "BadNumber", "number")]
/-- what _law_invalid makes of a call: '' or the error's word -/
def TTinv (K : PySem.W.Frag) : (XK → Hp → VK → Prop) → Hp → VK → Prop := fun tl H Q =>
  tl (fun cls d H' => ∃ (C dd : Addr) (nm : Str) (fs : List (Str × V)), cls = .ref C ∧ (C, nm) ∈ badW K ∧ d = some dd ∧ H' dd = some (.xd fs) ∧ ∀ H2, Same H' H2 → Q (.str nm) H2) H (fun _ H' => Q (.str "") H')
def kinds3 (b0 b1 b2 : Bool) : List (Str × Bool) := [("name", b0), ("path", b1), ("number", b2)]
theorem bad_kinds {K : PySem.W.Frag} {mg : Str → Option Value} (T : Tx fa fn K mg) {C : Addr} {nm : Str} (hC : (C, nm) ∈ badW K) : ExcC K C ∧ PySem.W.exmOne K (.ref C) (.ref (ga K "Invalid")) = some true ∧ ∃ b0 b1 b2 : Bool,
    PySem.W.kitOne K (.ref C) (.ref (ga K "BadName")) = some b0 ∧ PySem.W.kitOne K (.ref C) (.ref (ga K "BadPath")) = some b1 ∧ PySem.W.kitOne K (.ref C) (.ref (ga K "BadNumber")) = some b2 ∧
    ((((kinds3 b0 b1 b2).filter fun p => p.2).map fun p => V.str p.1) ++ [V.str "another"])[0]? = some (V.str nm) := by
  simp only [badW, List.mem_cons, List.not_mem_nil, or_false, Prod.mk.injEq] at hC
  rcases hC with ⟨rfl, rfl⟩ | ⟨rfl, rfl⟩ | ⟨rfl, rfl⟩
  · exact ⟨(excC_ok (T.c.fact 17 (f := fExcC "BadName") rfl)), (exmF_ok (T.c.fact 18 (f := fExm "BadName" "Invalid" true) rfl)), true, false, false, (kit_ok (T.c.fact 19 (f := fKit (fun K => .ref (ga K "BadName")) (fun K => .ref (ga K "BadName")) true) rfl)), (kit_ok (T.c.fact 20 (f := fKit (fun K => .ref (ga K "BadName")) (fun K => .ref (ga K "BadPath")) false) rfl)), (kit_ok (T.c.fact 21 (f := fKit (fun K => .ref (ga K "BadName")) (fun K => .ref (ga K "BadNumber")) false) rfl)), rfl⟩
  · exact ⟨(excC_ok (T.c.fact 22 (f := fExcC "BadPath") rfl)), (exmF_ok (T.c.fact 23 (f := fExm "BadPath" "Invalid" true) rfl)), false, true, false, (kit_ok (T.c.fact 24 (f := fKit (fun K => .ref (ga K "BadPath")) (fun K => .ref (ga K "BadName")) false) rfl)), (kit_ok (T.c.fact 25 (f := fKit (fun K => .ref (ga K "BadPath")) (fun K => .ref (ga K "BadPath")) true) rfl)), (kit_ok (T.c.fact 26 (f := fKit (fun K => .ref (ga K "BadPath")) (fun K => .ref (ga K "BadNumber")) false) rfl)), rfl⟩
  · exact ⟨(excC_ok (T.c.fact 27 (f := fExcC "BadNumber") rfl)), (exmF_ok (T.c.fact 28 (f := fExm "BadNumber" "Invalid" true) rfl)), false, false, true, (kit_ok (T.c.fact 29 (f := fKit (fun K => .ref (ga K "BadNumber")) (fun K => .ref (ga K "BadName")) false) rfl)), (kit_ok (T.c.fact 30 (f := fKit (fun K => .ref (ga K "BadNumber")) (fun K => .ref (ga K "BadPath")) false) rfl)), (kit_ok (T.c.fact 31 (f := fKit (fun K => .ref (ga K "BadNumber")) (fun K => .ref (ga K "BadNumber")) true) rfl)), rfl⟩
def InvPv (G : Hp) (ws : List (Str × Bool)) (_ : Addr) (i : Nat) (acc : List V) (H' : Hp) : Prop := Same G H' ∧ acc = ((ws.take i).filter fun p => p.2).map fun p => V.str p.1
theorem inv_gives {X : Cx} {q : Str} {g : Addr} {cdg : Value} (T : Tx fa fn X.K X.mg) : LamX.GivesTo X N_law_invalid "_law_invalid" (defScope s_law_invalid) g cdg (defBody s_law_invalid) "_law_call_so" q (TTinv X.K) := by
  intro f c s H Q tl act hc h
  have hr : True := trivial
  refine ⟨_, (pss_cons (ps_set (i := 1) sc_law_invalid.nd rfl (Or.inl rfl) pe_non)
 (pss_cons (ps_try_keep (i := 2) (c := .ref (ga _ "Invalid")) rfl rfl sc_law_invalid.nd rfl rfl ⟨rfl, by decide, Or.inl (T.glo (T.c.fact 3 (f := fGlo "Invalid") rfl))⟩ takes0 (fun W pn xe tk _ => act_stmt (n := 6) rfl fun E hW => act _ pn xe E _ _ (takes_len tk) hW) (fun a oe cls d pn hz hf => (pss_one (ps_set (i := 1) sc_law_invalid.nd rfl (Or.inl rfl) (pv 2)))))
 (pss_cons (ps_if (pt_cmpR op_isN (pv 1) pe_non (nomark _))
 (pss_one (ps_ret pe_str))
 pss_nil)
 (pss_cons (ps_set (i := 3) sc_law_invalid.nd rfl (Or.inl rfl) (pe_lst (pa_cons (pe_tup (pa_cons pe_str (pa_cons (pe_callB call_isk (by rfl) (T.free (T.c.fact 9 (f := fFree "isinstance") rfl)) (by decide +kernel) (pa_cons (pv 1) (pa_cons (pe_glob (v := .ref (ga _ "BadName")) rfl (T.glo (T.c.fact 13 (f := fGlo "BadName") rfl)) rfl) pa_nil))) pa_nil))) (pa_cons (pe_tup (pa_cons pe_str (pa_cons (pe_callB call_isk (by rfl) (T.free (T.c.fact 9 (f := fFree "isinstance") rfl)) (by decide +kernel) (pa_cons (pv 1) (pa_cons (pe_glob (v := .ref (ga _ "BadPath")) rfl (T.glo (T.c.fact 12 (f := fGlo "BadPath") rfl)) rfl) pa_nil))) pa_nil))) pa_nil))))
 (pss_cons (ps_expr (pe_bm PySem.F.plainAttrs_list PySem.F.slot_list_append PySem.F.type_list_append mt_append (pv 3) (pa_cons (pe_tup (pa_cons pe_str (pa_cons (pe_callB call_isk (by rfl) (T.free (T.c.fact 9 (f := fFree "isinstance") rfl)) (by decide +kernel) (pa_cons (pv 1) (pa_cons (pe_glob (v := .ref (ga _ "BadNumber")) rfl (T.glo (T.c.fact 32 (f := fGlo "BadNumber") rfl)) rfl) pa_nil))) pa_nil))) pa_nil)))
 (pss_one (ps_ret (pe_ix ix_lh (pe_op op_cat_n (pe_lc (own := [("_law_word", 4), ("_law_is_so", 5)]) (g := gTup X.K 2 (gCons (gName 4) (gCons (gName 5) gNil))) rfl sc_law_invalid.nd (pi_list (pv 3)) (blkOk_by (own := [("_law_word", 4), ("_law_is_so", 5)]) (N := N_law_invalid) (sc := defScope s_law_invalid) (by decide +kernel)) (fun _ _ _ _ _ => (pg_tup (by rfl) (pgs_cons (pg_name (i := 4) sc_law_invalid.nd rfl (Or.inl rfl)) (pgs_cons (pg_name (i := 5) sc_law_invalid.nd rfl (Or.inl rfl)) pgs_nil)))) (fun _ _ _ _ _ => (pts_one (pt_val (pv 5)))) (fun _ _ _ _ _ => (pv 4))) (pe_lst (pa_cons pe_str pa_nil))) pe_int (fun _ _ => rfl))))))))), ?_⟩
  try simp only [cxK, r_lam, r_dnew, r_err, r_base, r_serr, r_var, r_c, r_seq, r_next, r_break, r_cont, r_drop, r_ret, r_retN, r_if, r_ife, r_asg, r_name, r_op, r_un, r_nil, r_cons, r_lst2, r_tup2, r_lc, r_for, r_ilist, r_itup, r_istr, r_irng1, r_irng2, r_ienum, r_ienumS, wipe, r_cb, r_test, r_b, r_not, r_notV, r_andV, r_orV, r_isN, r_notN, r_m1, r_m0, r_fld, sFld, putF, r_par, r_sub, r_gtup, r_gnil, r_gcons, r_sl, r_nopart, r_part, r_bm, r_bm0, r_chain, r_call, r_callK, r_meth, r_prop, r_make, r_and, r_or, andT_t, andT_f, orT_t, orT_f, ifK_t, ifK_f, ifE_t, ifE_f, andK_t, andK_f, orK_t, orK_f, L2.start, List.map_cons, List.map_nil, List.length_cons, List.length_nil, List.replicate_succ, List.replicate_zero, List.cons_append, List.nil_append, List.getElem?_cons_succ, List.getElem?_cons_zero, List.set_cons_succ, List.set_cons_zero, Nat.reduceAdd, Nat.reduceSub, Nat.zero_add, decide_true, decide_false, Bool.not_true, Bool.not_false, if_true, if_false, rEq, rNe, scal_ii, scal_ss, scal_bb, scal_is, scal_si, scal_ns, scal_ni, scal_in, scal_sn, scal_nn, rI, rI0, rU, rIxLH, rIxTH, rLenH, rLenTH, rSetL, rCatN, rTupOfN, rLstOfN, rSlLN, rSlTN, CDiv, CPow, CMul, CDivW, rNeNil, rLenO, rSplitN, rRepN, r_replC, rMulS, r_methK, rRepTN, r_cmK, rCmpO, rInO, r_ixO, r_revL, rInSelf, rCmpA, rBinO, Bool.false_xor, Bool.true_xor, r_starT, r_starL, r_cm, r_cval, selK_t, selK_f, rAppend, rIsK, reduceCtorEq, upd_same, at0, at1, at2, at3, at4, at5, at6, at7, at8, at9, at10, at11, at12, at13, ix3_0, ix3_1, ix3_2, V.int.injEq, V.bl.injEq, V.str.injEq, V.ref.injEq, Option.some.injEq, HO.lst.injEq, HO.tup.injEq, HO.ins.injEq, List.cons.injEq, and_true, true_and, exists_eq_left, exists_eq_left', exists_and_left, exists_eq', exists_eq, and_assoc, N_law_row]
  refine ⟨_, fun cls d σ' H' hE len => ?_, hc, h⟩
  obtain ⟨C, dd, nm, fs, rfl, hC, rfl, hdd, q⟩ := hE
  match σ', len with
  | [w0, w1, w2, w3, w4, w5], _ =>
  obtain ⟨eC, ex, b0, b1, b2, k0, k1, k2, sel⟩ := bad_kinds T hC
  refine ⟨true, ex, fun _ a na => ?_, fun z => nomatch z⟩
  try simp only [cxK, r_lam, r_dnew, r_err, r_base, r_serr, r_var, r_c, r_seq, r_next, r_break, r_cont, r_drop, r_ret, r_retN, r_if, r_ife, r_asg, r_name, r_op, r_un, r_nil, r_cons, r_lst2, r_tup2, r_lc, r_for, r_ilist, r_itup, r_istr, r_irng1, r_irng2, r_ienum, r_ienumS, wipe, r_cb, r_test, r_b, r_not, r_notV, r_andV, r_orV, r_isN, r_notN, r_m1, r_m0, r_fld, sFld, putF, r_par, r_sub, r_gtup, r_gnil, r_gcons, r_sl, r_nopart, r_part, r_bm, r_bm0, r_chain, r_call, r_callK, r_meth, r_prop, r_make, r_and, r_or, andT_t, andT_f, orT_t, orT_f, ifK_t, ifK_f, ifE_t, ifE_f, andK_t, andK_f, orK_t, orK_f, L2.start, List.map_cons, List.map_nil, List.length_cons, List.length_nil, List.replicate_succ, List.replicate_zero, List.cons_append, List.nil_append, List.getElem?_cons_succ, List.getElem?_cons_zero, List.set_cons_succ, List.set_cons_zero, Nat.reduceAdd, Nat.reduceSub, Nat.zero_add, decide_true, decide_false, Bool.not_true, Bool.not_false, if_true, if_false, rEq, rNe, scal_ii, scal_ss, scal_bb, scal_is, scal_si, scal_ns, scal_ni, scal_in, scal_sn, scal_nn, rI, rI0, rU, rIxLH, rIxTH, rLenH, rLenTH, rSetL, rCatN, rTupOfN, rLstOfN, rSlLN, rSlTN, CDiv, CPow, CMul, CDivW, rNeNil, rLenO, rSplitN, rRepN, r_replC, rMulS, r_methK, rRepTN, r_cmK, rCmpO, rInO, r_ixO, r_revL, rInSelf, rCmpA, rBinO, Bool.false_xor, Bool.true_xor, r_starT, r_starL, r_cm, r_cval, selK_t, selK_f, rAppend, rIsK, reduceCtorEq, upd_same, at0, at1, at2, at3, at4, at5, at6, at7, at8, at9, at10, at11, at12, at13, ix3_0, ix3_1, ix3_2, V.int.injEq, V.bl.injEq, V.str.injEq, V.ref.injEq, Option.some.injEq, HO.lst.injEq, HO.tup.injEq, HO.ins.injEq, List.cons.injEq, and_true, true_and, exists_eq_left, exists_eq_left', exists_and_left, exists_eq', exists_eq, and_assoc, N_law_row]
  have da : dd ≠ a := fun e => by rw [e, na] at hdd; cases hdd
  have s0 : Same H' (upd H' a (exk a (.ref C) (some dd))) := IsNew.same ⟨na, rfl⟩
  obtain ⟨G0, eG⟩ : ∃ G0, G0 = upd H' a (exk a (.ref C) (some dd)) := ⟨_, rfl⟩
  rw [← eG] at s0 ⊢
  have ha0 : G0 a = some (exk a (.ref C) (some dd)) := by rw [eG]; exact upd_same
  have hd0 := s0 _ _ hdd
  refine ⟨dd, C, rfl, fs, hd0, eC, b0, k0, fits (by decide), fun p0 G1 n1 => ?_⟩
  have ha1 := n1.old ha0
  have hd1 := n1.old hd0
  refine ⟨dd, C, ha1, fs, hd1, eC, b1, k1, fits (by decide), fun p1 G2 n2 => ⟨fits (by decide), fun l G3 n3 => ?_⟩⟩
  have ha3 := n3.old (n2.old ha1)
  have hd3 := n3.old (n2.old hd1)
  have hl3 := n3.at_
  refine ⟨Or.inl ⟨rfl, _, SqL.of hl3⟩, dd, C, ha3, fs, hd3, eC, b2, k2, fits (by decide), fun p2 G4 n4 => ?_⟩
  have hl4 := n4.old hl3
  try simp only [cxK, r_lam, r_dnew, r_err, r_base, r_serr, r_var, r_c, r_seq, r_next, r_break, r_cont, r_drop, r_ret, r_retN, r_if, r_ife, r_asg, r_name, r_op, r_un, r_nil, r_cons, r_lst2, r_tup2, r_lc, r_for, r_ilist, r_itup, r_istr, r_irng1, r_irng2, r_ienum, r_ienumS, wipe, r_cb, r_test, r_b, r_not, r_notV, r_andV, r_orV, r_isN, r_notN, r_m1, r_m0, r_fld, sFld, putF, r_par, r_sub, r_gtup, r_gnil, r_gcons, r_sl, r_nopart, r_part, r_bm, r_bm0, r_chain, r_call, r_callK, r_meth, r_prop, r_make, r_and, r_or, andT_t, andT_f, orT_t, orT_f, ifK_t, ifK_f, ifE_t, ifE_f, andK_t, andK_f, orK_t, orK_f, L2.start, List.map_cons, List.map_nil, List.length_cons, List.length_nil, List.replicate_succ, List.replicate_zero, List.cons_append, List.nil_append, List.getElem?_cons_succ, List.getElem?_cons_zero, List.set_cons_succ, List.set_cons_zero, Nat.reduceAdd, Nat.reduceSub, Nat.zero_add, decide_true, decide_false, Bool.not_true, Bool.not_false, if_true, if_false, rEq, rNe, scal_ii, scal_ss, scal_bb, scal_is, scal_si, scal_ns, scal_ni, scal_in, scal_sn, scal_nn, rI, rI0, rU, rIxLH, rIxTH, rLenH, rLenTH, rSetL, rCatN, rTupOfN, rLstOfN, rSlLN, rSlTN, CDiv, CPow, CMul, CDivW, rNeNil, rLenO, rSplitN, rRepN, r_replC, rMulS, r_methK, rRepTN, r_cmK, rCmpO, rInO, r_ixO, r_revL, rInSelf, rCmpA, rBinO, Bool.false_xor, Bool.true_xor, r_starT, r_starL, r_cm, r_cval, selK_t, selK_f, rAppend, rIsK, reduceCtorEq, upd_same, at0, at1, at2, at3, at4, at5, at6, at7, at8, at9, at10, at11, at12, at13, ix3_0, ix3_1, ix3_2, V.int.injEq, V.bl.injEq, V.str.injEq, V.ref.injEq, Option.some.injEq, HO.lst.injEq, HO.tup.injEq, HO.ins.injEq, List.cons.injEq, and_true, true_and, exists_eq_left, exists_eq_left', exists_and_left, exists_eq', exists_eq, and_assoc, N_law_row, hl4]
  have hl' : H' l = none := by
    cases e : H' l with
    | none => rfl
    | some o =>
      have z := n2.old (n1.old (s0 _ _ e))
      rw [n3.1] at z
      cases z
  obtain ⟨G5, e5⟩ : ∃ G5, G5 = upd G4 l (.lst [.ref p0, .ref p1, .ref p2]) := ⟨_, rfl⟩
  rw [← e5]
  have s5 : Same H' G5 := by
    rw [e5]
    exact same_upd hl' (same_trans s0 (same_trans n1.same (same_trans n2.same (same_trans n3.same n4.same))))
  have hl5 : G5 l = some (.lst [.ref p0, .ref p1, .ref p2]) := by rw [e5]; exact upd_same
  have ne : ∀ {p : Addr} {xs : List V}, G4 p = some (.tup xs) → G5 p = some (.tup xs) := fun {p xs} h => by
    rw [e5, upd_ne (fun e => by rw [e, hl4] at h; cases h)]
    exact h
  have t0 := ne (n4.old (n3.old (n2.old n1.at_)))
  have t1 := ne (n4.old (n3.old n2.at_))
  have t2 := ne n4.at_
  have rows : ∀ (i : Nat) (v : V), ([.ref p0, .ref p1, .ref p2] : List V)[i]? = some v → ∃ (p : Addr) (wd : Str) (b : Bool), v = .ref p ∧ (kinds3 b0 b1 b2)[i]? = some (wd, b) ∧ G5 p = some (.tup [.str wd, .bl b]) := fun i v hv => by
    have hi : i < 3 := idx_lt hv
    match i, hi, hv with
    | 0, _, hv => exact ⟨p0, _, _, (Option.some.inj hv).symm, rfl, t0⟩
    | 1, _, hv => exact ⟨p1, _, _, (Option.some.inj hv).symm, rfl, t1⟩
    | 2, _, hv => exact ⟨p2, _, _, (Option.some.inj hv).symm, rfl, t2⟩
  refine ⟨by rw [sizeLine_eq]; decide, ⟨_, SqL.of hl5⟩, ?_⟩
  refine lcK_itT walk_list (InvPv G5 (kinds3 b0 b1 b2)) (fun D H0 n0 => ⟨n0.same, rfl⟩) (fun D i acc H1 nD hi hD p => SqL.of (p.1 _ _ hl5)) ?_ ?_
  · rintro D i x acc H1 H2 nD hi hD hlen ⟨sm, ea⟩ ⟨rfl, hx⟩
    obtain ⟨p, wd, b, rfl, hk, hp⟩ := rows i x hx
    have hp2 := sm _ _ hp
    try simp only [cxK, r_lam, r_dnew, r_err, r_base, r_serr, r_var, r_c, r_seq, r_next, r_break, r_cont, r_drop, r_ret, r_retN, r_if, r_ife, r_asg, r_name, r_op, r_un, r_nil, r_cons, r_lst2, r_tup2, r_lc, r_for, r_ilist, r_itup, r_istr, r_irng1, r_irng2, r_ienum, r_ienumS, wipe, r_cb, r_test, r_b, r_not, r_notV, r_andV, r_orV, r_isN, r_notN, r_m1, r_m0, r_fld, sFld, putF, r_par, r_sub, r_gtup, r_gnil, r_gcons, r_sl, r_nopart, r_part, r_bm, r_bm0, r_chain, r_call, r_callK, r_meth, r_prop, r_make, r_and, r_or, andT_t, andT_f, orT_t, orT_f, ifK_t, ifK_f, ifE_t, ifE_f, andK_t, andK_f, orK_t, orK_f, L2.start, List.map_cons, List.map_nil, List.length_cons, List.length_nil, List.replicate_succ, List.replicate_zero, List.cons_append, List.nil_append, List.getElem?_cons_succ, List.getElem?_cons_zero, List.set_cons_succ, List.set_cons_zero, Nat.reduceAdd, Nat.reduceSub, Nat.zero_add, decide_true, decide_false, Bool.not_true, Bool.not_false, if_true, if_false, rEq, rNe, scal_ii, scal_ss, scal_bb, scal_is, scal_si, scal_ns, scal_ni, scal_in, scal_sn, scal_nn, rI, rI0, rU, rIxLH, rIxTH, rLenH, rLenTH, rSetL, rCatN, rTupOfN, rLstOfN, rSlLN, rSlTN, CDiv, CPow, CMul, CDivW, rNeNil, rLenO, rSplitN, rRepN, r_replC, rMulS, r_methK, rRepTN, r_cmK, rCmpO, rInO, r_ixO, r_revL, rInSelf, rCmpA, rBinO, Bool.false_xor, Bool.true_xor, r_starT, r_starL, r_cm, r_cval, selK_t, selK_f, rAppend, rIsK, reduceCtorEq, upd_same, at0, at1, at2, at3, at4, at5, at6, at7, at8, at9, at10, at11, at12, at13, ix3_0, ix3_1, ix3_2, V.int.injEq, V.bl.injEq, V.str.injEq, V.ref.injEq, Option.some.injEq, HO.lst.injEq, HO.tup.injEq, HO.ins.injEq, List.cons.injEq, and_true, true_and, exists_eq_left, exists_eq_left', exists_and_left, exists_eq', exists_eq, and_assoc, N_law_row]
    refine ⟨_, SqT.of hp2, rfl, ?_⟩
    try simp only [cxK, r_lam, r_dnew, r_err, r_base, r_serr, r_var, r_c, r_seq, r_next, r_break, r_cont, r_drop, r_ret, r_retN, r_if, r_ife, r_asg, r_name, r_op, r_un, r_nil, r_cons, r_lst2, r_tup2, r_lc, r_for, r_ilist, r_itup, r_istr, r_irng1, r_irng2, r_ienum, r_ienumS, wipe, r_cb, r_test, r_b, r_not, r_notV, r_andV, r_orV, r_isN, r_notN, r_m1, r_m0, r_fld, sFld, putF, r_par, r_sub, r_gtup, r_gnil, r_gcons, r_sl, r_nopart, r_part, r_bm, r_bm0, r_chain, r_call, r_callK, r_meth, r_prop, r_make, r_and, r_or, andT_t, andT_f, orT_t, orT_f, ifK_t, ifK_f, ifE_t, ifE_f, andK_t, andK_f, orK_t, orK_f, L2.start, List.map_cons, List.map_nil, List.length_cons, List.length_nil, List.replicate_succ, List.replicate_zero, List.cons_append, List.nil_append, List.getElem?_cons_succ, List.getElem?_cons_zero, List.set_cons_succ, List.set_cons_zero, Nat.reduceAdd, Nat.reduceSub, Nat.zero_add, decide_true, decide_false, Bool.not_true, Bool.not_false, if_true, if_false, rEq, rNe, scal_ii, scal_ss, scal_bb, scal_is, scal_si, scal_ns, scal_ni, scal_in, scal_sn, scal_nn, rI, rI0, rU, rIxLH, rIxTH, rLenH, rLenTH, rSetL, rCatN, rTupOfN, rLstOfN, rSlLN, rSlTN, CDiv, CPow, CMul, CDivW, rNeNil, rLenO, rSplitN, rRepN, r_replC, rMulS, r_methK, rRepTN, r_cmK, rCmpO, rInO, r_ixO, r_revL, rInSelf, rCmpA, rBinO, Bool.false_xor, Bool.true_xor, r_starT, r_starL, r_cm, r_cval, selK_t, selK_f, rAppend, rIsK, reduceCtorEq, upd_same, at0, at1, at2, at3, at4, at5, at6, at7, at8, at9, at10, at11, at12, at13, ix3_0, ix3_1, ix3_2, V.int.injEq, V.bl.injEq, V.str.injEq, V.ref.injEq, Option.some.injEq, HO.lst.injEq, HO.tup.injEq, HO.ins.injEq, List.cons.injEq, and_true, true_and, exists_eq_left, exists_eq_left', exists_and_left, exists_eq', exists_eq, and_assoc, N_law_row]
    have tk : (kinds3 b0 b1 b2).take (i + 1) = (kinds3 b0 b1 b2).take i ++ [(wd, b)] := by rw [List.take_add_one, hk] <;> rfl
    cases b with
    | true =>
      try simp only [cxK, r_lam, r_dnew, r_err, r_base, r_serr, r_var, r_c, r_seq, r_next, r_break, r_cont, r_drop, r_ret, r_retN, r_if, r_ife, r_asg, r_name, r_op, r_un, r_nil, r_cons, r_lst2, r_tup2, r_lc, r_for, r_ilist, r_itup, r_istr, r_irng1, r_irng2, r_ienum, r_ienumS, wipe, r_cb, r_test, r_b, r_not, r_notV, r_andV, r_orV, r_isN, r_notN, r_m1, r_m0, r_fld, sFld, putF, r_par, r_sub, r_gtup, r_gnil, r_gcons, r_sl, r_nopart, r_part, r_bm, r_bm0, r_chain, r_call, r_callK, r_meth, r_prop, r_make, r_and, r_or, andT_t, andT_f, orT_t, orT_f, ifK_t, ifK_f, ifE_t, ifE_f, andK_t, andK_f, orK_t, orK_f, L2.start, List.map_cons, List.map_nil, List.length_cons, List.length_nil, List.replicate_succ, List.replicate_zero, List.cons_append, List.nil_append, List.getElem?_cons_succ, List.getElem?_cons_zero, List.set_cons_succ, List.set_cons_zero, Nat.reduceAdd, Nat.reduceSub, Nat.zero_add, decide_true, decide_false, Bool.not_true, Bool.not_false, if_true, if_false, rEq, rNe, scal_ii, scal_ss, scal_bb, scal_is, scal_si, scal_ns, scal_ni, scal_in, scal_sn, scal_nn, rI, rI0, rU, rIxLH, rIxTH, rLenH, rLenTH, rSetL, rCatN, rTupOfN, rLstOfN, rSlLN, rSlTN, CDiv, CPow, CMul, CDivW, rNeNil, rLenO, rSplitN, rRepN, r_replC, rMulS, r_methK, rRepTN, r_cmK, rCmpO, rInO, r_ixO, r_revL, rInSelf, rCmpA, rBinO, Bool.false_xor, Bool.true_xor, r_starT, r_starL, r_cm, r_cval, selK_t, selK_f, rAppend, rIsK, reduceCtorEq, upd_same, at0, at1, at2, at3, at4, at5, at6, at7, at8, at9, at10, at11, at12, at13, ix3_0, ix3_1, ix3_2, V.int.injEq, V.bl.injEq, V.str.injEq, V.ref.injEq, Option.some.injEq, HO.lst.injEq, HO.tup.injEq, HO.ins.injEq, List.cons.injEq, and_true, true_and, exists_eq_left, exists_eq_left', exists_and_left, exists_eq', exists_eq, and_assoc, N_law_row]
      refine addK_mkT hD hlen (by have : i < 3 := hi; omega) ⟨same_upd nD sm, ?_⟩
      rw [tk, ea]
      simp
    | false =>
      try simp only [cxK, r_lam, r_dnew, r_err, r_base, r_serr, r_var, r_c, r_seq, r_next, r_break, r_cont, r_drop, r_ret, r_retN, r_if, r_ife, r_asg, r_name, r_op, r_un, r_nil, r_cons, r_lst2, r_tup2, r_lc, r_for, r_ilist, r_itup, r_istr, r_irng1, r_irng2, r_ienum, r_ienumS, wipe, r_cb, r_test, r_b, r_not, r_notV, r_andV, r_orV, r_isN, r_notN, r_m1, r_m0, r_fld, sFld, putF, r_par, r_sub, r_gtup, r_gnil, r_gcons, r_sl, r_nopart, r_part, r_bm, r_bm0, r_chain, r_call, r_callK, r_meth, r_prop, r_make, r_and, r_or, andT_t, andT_f, orT_t, orT_f, ifK_t, ifK_f, ifE_t, ifE_f, andK_t, andK_f, orK_t, orK_f, L2.start, List.map_cons, List.map_nil, List.length_cons, List.length_nil, List.replicate_succ, List.replicate_zero, List.cons_append, List.nil_append, List.getElem?_cons_succ, List.getElem?_cons_zero, List.set_cons_succ, List.set_cons_zero, Nat.reduceAdd, Nat.reduceSub, Nat.zero_add, decide_true, decide_false, Bool.not_true, Bool.not_false, if_true, if_false, rEq, rNe, scal_ii, scal_ss, scal_bb, scal_is, scal_si, scal_ns, scal_ni, scal_in, scal_sn, scal_nn, rI, rI0, rU, rIxLH, rIxTH, rLenH, rLenTH, rSetL, rCatN, rTupOfN, rLstOfN, rSlLN, rSlTN, CDiv, CPow, CMul, CDivW, rNeNil, rLenO, rSplitN, rRepN, r_replC, rMulS, r_methK, rRepTN, r_cmK, rCmpO, rInO, r_ixO, r_revL, rInSelf, rCmpA, rBinO, Bool.false_xor, Bool.true_xor, r_starT, r_starL, r_cm, r_cval, selK_t, selK_f, rAppend, rIsK, reduceCtorEq, upd_same, at0, at1, at2, at3, at4, at5, at6, at7, at8, at9, at10, at11, at12, at13, ix3_0, ix3_1, ix3_2, V.int.injEq, V.bl.injEq, V.str.injEq, V.ref.injEq, Option.some.injEq, HO.lst.injEq, HO.tup.injEq, HO.ins.injEq, List.cons.injEq, and_true, true_and, exists_eq_left, exists_eq_left', exists_and_left, exists_eq', exists_eq, and_assoc, N_law_row]
      refine ⟨acc, hD, by omega, sm, ?_⟩
      rw [tk, ea]
      simp
  · rintro D acc H1 nD hD ⟨sm, ea⟩
    have ea2 : acc = ((kinds3 b0 b1 b2).filter fun p => p.2).map fun p => V.str p.1 := ea
    try simp only [cxK, r_lam, r_dnew, r_err, r_base, r_serr, r_var, r_c, r_seq, r_next, r_break, r_cont, r_drop, r_ret, r_retN, r_if, r_ife, r_asg, r_name, r_op, r_un, r_nil, r_cons, r_lst2, r_tup2, r_lc, r_for, r_ilist, r_itup, r_istr, r_irng1, r_irng2, r_ienum, r_ienumS, wipe, r_cb, r_test, r_b, r_not, r_notV, r_andV, r_orV, r_isN, r_notN, r_m1, r_m0, r_fld, sFld, putF, r_par, r_sub, r_gtup, r_gnil, r_gcons, r_sl, r_nopart, r_part, r_bm, r_bm0, r_chain, r_call, r_callK, r_meth, r_prop, r_make, r_and, r_or, andT_t, andT_f, orT_t, orT_f, ifK_t, ifK_f, ifE_t, ifE_f, andK_t, andK_f, orK_t, orK_f, L2.start, List.map_cons, List.map_nil, List.length_cons, List.length_nil, List.replicate_succ, List.replicate_zero, List.cons_append, List.nil_append, List.getElem?_cons_succ, List.getElem?_cons_zero, List.set_cons_succ, List.set_cons_zero, Nat.reduceAdd, Nat.reduceSub, Nat.zero_add, decide_true, decide_false, Bool.not_true, Bool.not_false, if_true, if_false, rEq, rNe, scal_ii, scal_ss, scal_bb, scal_is, scal_si, scal_ns, scal_ni, scal_in, scal_sn, scal_nn, rI, rI0, rU, rIxLH, rIxTH, rLenH, rLenTH, rSetL, rCatN, rTupOfN, rLstOfN, rSlLN, rSlTN, CDiv, CPow, CMul, CDivW, rNeNil, rLenO, rSplitN, rRepN, r_replC, rMulS, r_methK, rRepTN, r_cmK, rCmpO, rInO, r_ixO, r_revL, rInSelf, rCmpA, rBinO, Bool.false_xor, Bool.true_xor, r_starT, r_starL, r_cm, r_cval, selK_t, selK_f, rAppend, rIsK, reduceCtorEq, upd_same, at0, at1, at2, at3, at4, at5, at6, at7, at8, at9, at10, at11, at12, at13, ix3_0, ix3_1, ix3_2, V.int.injEq, V.bl.injEq, V.str.injEq, V.ref.injEq, Option.some.injEq, HO.lst.injEq, HO.tup.injEq, HO.ins.injEq, List.cons.injEq, and_true, true_and, exists_eq_left, exists_eq_left', exists_and_left, exists_eq', exists_eq, and_assoc, N_law_row]
    refine ⟨fits (by decide), fun p6 H2 n6 => ?_⟩
    have hD2 := n6.old hD
    have h6 := n6.at_
    try simp only [cxK, r_lam, r_dnew, r_err, r_base, r_serr, r_var, r_c, r_seq, r_next, r_break, r_cont, r_drop, r_ret, r_retN, r_if, r_ife, r_asg, r_name, r_op, r_un, r_nil, r_cons, r_lst2, r_tup2, r_lc, r_for, r_ilist, r_itup, r_istr, r_irng1, r_irng2, r_ienum, r_ienumS, wipe, r_cb, r_test, r_b, r_not, r_notV, r_andV, r_orV, r_isN, r_notN, r_m1, r_m0, r_fld, sFld, putF, r_par, r_sub, r_gtup, r_gnil, r_gcons, r_sl, r_nopart, r_part, r_bm, r_bm0, r_chain, r_call, r_callK, r_meth, r_prop, r_make, r_and, r_or, andT_t, andT_f, orT_t, orT_f, ifK_t, ifK_f, ifE_t, ifE_f, andK_t, andK_f, orK_t, orK_f, L2.start, List.map_cons, List.map_nil, List.length_cons, List.length_nil, List.replicate_succ, List.replicate_zero, List.cons_append, List.nil_append, List.getElem?_cons_succ, List.getElem?_cons_zero, List.set_cons_succ, List.set_cons_zero, Nat.reduceAdd, Nat.reduceSub, Nat.zero_add, decide_true, decide_false, Bool.not_true, Bool.not_false, if_true, if_false, rEq, rNe, scal_ii, scal_ss, scal_bb, scal_is, scal_si, scal_ns, scal_ni, scal_in, scal_sn, scal_nn, rI, rI0, rU, rIxLH, rIxTH, rLenH, rLenTH, rSetL, rCatN, rTupOfN, rLstOfN, rSlLN, rSlTN, CDiv, CPow, CMul, CDivW, rNeNil, rLenO, rSplitN, rRepN, r_replC, rMulS, r_methK, rRepTN, r_cmK, rCmpO, rInO, r_ixO, r_revL, rInSelf, rCmpA, rBinO, Bool.false_xor, Bool.true_xor, r_starT, r_starL, r_cm, r_cval, selK_t, selK_f, rAppend, rIsK, reduceCtorEq, upd_same, at0, at1, at2, at3, at4, at5, at6, at7, at8, at9, at10, at11, at12, at13, ix3_0, ix3_1, ix3_2, V.int.injEq, V.bl.injEq, V.str.injEq, V.ref.injEq, Option.some.injEq, HO.lst.injEq, HO.tup.injEq, HO.ins.injEq, List.cons.injEq, and_true, true_and, exists_eq_left, exists_eq_left', exists_and_left, exists_eq', exists_eq, and_assoc, N_law_row, hD2, h6]
    have few : acc.length ≤ 3 := by
      rw [ea2, List.length_map]
      exact Nat.le_trans (List.length_filter_le _ _) (show (kinds3 b0 b1 b2).length ≤ 3 from Nat.le_refl 3)
    refine ⟨fits (by simp; omega), fun p7 H3 n7 => ⟨_, n7.at_, V.str nm, ?_, q H3 (same_trans s5 (same_trans sm (same_trans n6.same n7.same)))⟩⟩
    rw [← ea2] at sel
    exact atI_nat (j := 0) sel
theorem pe_inv {X : Cx} {d : DX} {k : Nat} {params : Arguments} {body : Expr} {scope : Scope} {t : XK → TE} {p lpos pos : Pos} (T : Tx fa fn X.K X.mg) (B : Tb lm X.K X.mg X.base) (dn : (lm.map fun d => tabX X.K d).Nodup) (hd : d ∈ lm)
    (hcode : X.env.code = .ref (codeX X.K d)) (hqual : X.env.qual = d.qual ++ ".<locals>.") (hg : Gl X "_law_invalid") (hr : Room (k + 2) X.A) (L : LamX.LamS X.env.scope scope) (hdef : defaultsOf params X.env = ([], []))
    (hbind : ∀ (q : Str) (cl : List (Str × Addr)) (pm cv ctv : Value), bindArgs (PySem.W.kla_fn "<lambda>" q params body scope cl pm cv ctv) ⟨[], []⟩ = pure [])
    (hbody : ∀ (A : Around) (outer : List Env) (s : Shared) (H : Hp) (E : XK) (f c : Addr), Room k (A.deeper (LamX.lamEnv X scope s.heap.objs.size f c)) → PE (LamX.lamCx X A outer s H E scope f c) body (t E)) :
    PE X (.Call (.Name "_law_invalid" p) [.Lambda params body scope lpos] [] pos) (LamX.tLam (TL lm X.K) (TTinv X.K) t) := by
  obtain ⟨fd, F⟩ := (F_law_invalid T)
  obtain ⟨oc, od, dV, kV, doc, pm, an, cdv, ct, osl, e, lk, hcd, _, _⟩ := F.ex
  have hb := b_law_invalid F
  subst e
  have hm : (tabX X.K d, X.env.qual ++ "<lambda>") ∈ TL lm X.K := by rw [hqual]; exact TL_mem hd
  have hu : ∀ z ∈ TL lm X.K, z.1 = tabX X.K d → z.2 = X.env.qual ++ "<lambda>" := by rw [hqual]; exact TL_u dn hd
  exact LamX.pe_lamcall (k := k) (Ng := N_law_invalid) (a := "_law_call_so") hg (g_law_invalid T) (k_law_invalid T) lk hcd hb sc_law_invalid rfl (Or.inl rfl) (inv_gives T) (B d hd) hcode hm hu hr L hdef hbind hbody
theorem pe_invD {X : Cx} {d : DX} {k : Nat} {params : Arguments} {body : Expr} {scope : Scope} {t : XK → TE} {p lpos pos cp : Pos} {i : Int} {cj : Nat} {y : Str} (T : Tx fa fn X.K X.mg) (B : Tb lm X.K X.mg X.base) (dn : (lm.map fun d => tabX X.K d).Nodup) (hd : d ∈ lm)
    (hcode : X.env.code = .ref (codeX X.K d)) (hqual : X.env.qual = d.qual ++ ".<locals>.") (hg : Gl X "_law_invalid") (hr : Room (k + 2) X.A) (L : FLd.LamD X.N X.env.scope scope) (hdef : defaultsOf params X.env = ([eval (.Constant (.int i) cj cp) X.env], []))
    (hbind : FLd.BindD params body scope y) (hloc : scope.names.lookup y = some .local)
    (hbody : ∀ (A : Around) (outer : List Env) (s : Shared) (H : Hp) (E : XK) (f c : Addr), Room k (A.deeper (LamX.lamEnv X scope s.heap.objs.size f c)) → PE (LamX.lamCx X A outer s H E scope f c) body (t E)) :
    PE X (.Call (.Name "_law_invalid" p) [.Lambda params body scope lpos] [] pos) (LamX.tLam (TL lm X.K) (TTinv X.K) t) := by
  obtain ⟨fd, F⟩ := (F_law_invalid T)
  obtain ⟨oc, od, dV, kV, doc, pm, an, cdv, ct, osl, e, lk, hcd, _, _⟩ := F.ex
  have hb := b_law_invalid F
  subst e
  have hm : (tabX X.K d, X.env.qual ++ "<lambda>") ∈ TL lm X.K := by rw [hqual]; exact TL_mem hd
  have hu : ∀ z ∈ TL lm X.K, z.1 = tabX X.K d → z.2 = X.env.qual ++ "<lambda>" := by rw [hqual]; exact TL_u dn hd
  exact FLd.pe_lamcallD (k := k) (Ng := N_law_invalid) (a := "_law_call_so") hg (g_law_invalid T) (k_law_invalid T) lk hcd hb sc_law_invalid rfl (Or.inl rfl) (inv_gives T) (B d hd) hcode hm hu hr L hdef hbind hloc hbody
/-- the call goes well; it ends with one of the three errors -/
def okK (Q : VK) : VK := fun _ H' => Q (.str "") H'
def errK (K : PySem.W.Frag) (Q : VK) : XK := fun cls d H' => ∃ (C dd : Addr) (nm : Str) (fs : List (Str × V)), cls = .ref C ∧ (C, nm) ∈ badW K ∧ d = some dd ∧ H' dd = some (.xd fs) ∧ ∀ H2, Same H' H2 → Q (.str nm) H2
theorem TTinv.intro {K : PySem.W.Frag} {tl : XK → Hp → VK → Prop} {H : Hp} {Q : VK} (h : tl (errK K Q) H (okK Q)) : TTinv K tl H Q := h
theorem errK.name {K : PySem.W.Frag} {Q : VK} {d : Addr} {fs : List (Str × V)} {H : Hp} (hd : H d = some (.xd fs)) (h : ∀ H2, Same H H2 → Q (.str "name") H2) : errK K Q (.ref (ga K "BadName")) (some d) H := ⟨_, d, "name", fs, rfl, by simp [badW], rfl, hd, h⟩
theorem errK.path {K : PySem.W.Frag} {Q : VK} {d : Addr} {fs : List (Str × V)} {H : Hp} (hd : H d = some (.xd fs)) (h : ∀ H2, Same H H2 → Q (.str "path") H2) : errK K Q (.ref (ga K "BadPath")) (some d) H := ⟨_, d, "path", fs, rfl, by simp [badW], rfl, hd, h⟩
theorem errK.number {K : PySem.W.Frag} {Q : VK} {d : Addr} {fs : List (Str × V)} {H : Hp} (hd : H d = some (.xd fs)) (h : ∀ H2, Same H H2 → Q (.str "number") H2) : errK K Q (.ref (ga K "BadNumber")) (some d) H := ⟨_, d, "number", fs, rfl, by simp [badW], rfl, hd, h⟩

end

section
variable {gd : Bool} {P : Program} {w : World} {K : PySem.W.Frag} {mg : Str → Option Value} {base : Heap}

/-- a path of the values xs at p -/
def PathV (K : PySem.W.Frag) (H : Hp) (p : Addr) (xs : List V) : Prop := ∃ dx t, H p = some (.ins (ga K "Path") dx [("names", .ref t)]) ∧ H t = some (.tup xs)
theorem PathV.same {K : PySem.W.Frag} {H H' : Hp} {p : Addr} {xs : List V} (h : PathV K H p xs) (s : Same H H') : PathV K H' p xs := let ⟨dx, t, a, b⟩ := h; ⟨dx, t, s _ _ a, s _ _ b⟩
/-- which error the making of a path ends with -/
def BadMake (K : PySem.W.Frag) (bs : List Bool) (C : Addr) : Prop := (bs.all id = false ∧ C = ga K "BadName") ∨ (bs.all id = true ∧ 12 < bs.length ∧ C = ga K "BadPath")
theorem path_madeX {K : PySem.W.Frag} {H : Hp} {xs : List V} {bs : List Bool} {Q : Addr → Hp → Prop} {E : XK} (hl : xs.length ≤ 1000) (hb : bs.length = xs.length) (hN : ∀ (i : Nat) (x : V) (b : Bool), xs[i]? = some x → bs[i]? = some b → NmV H x b)
    (ok : bs.all id = true → xs.length ≤ 12 → ∀ p H', Same H H' → PathV K H' p xs → Q p H') (no : ∀ C d fs H', Same H H' → H' d = some (.xd fs) → BadMake K bs C → E (.ref C) (some d) H') :
    ∀ x dx, H x = none → H dx = none → dx ≠ x → ∃ ws rest, (V.ref x :: xs) = ws ++ rest ∧ ws.length = 1 ∧ rest.length ≤ sizeLine ∧ ∀ t, (upd (upd H dx (.own x)) x (.ins (ga K "Path") dx [])) t = Option.none →
      spInitX K (ws ++ [V.ref t]) (upd (upd (upd H dx (.own x)) x (.ins (ga K "Path") dx [])) t (.tup rest)) (fun v H2 => v = .non ∧ Q x H2) E := by
  intro x dx nx ndx ne
  refine ⟨[.ref x], xs, rfl, rfl, fits (by omega), fun t nt => ?_⟩
  have tx : x ≠ t := fun e => by
    subst e
    rw [upd_same] at nt
    cases nt
  have s0 : Same H (upd (upd (upd H dx (.own x)) x (.ins (ga K "Path") dx [])) t (.tup xs)) := same_trans (IsNew.same ⟨ndx, rfl⟩) (same_trans (IsNew.same ⟨by rw [upd_ne (Ne.symm ne)]; exact nx, rfl⟩) (IsNew.same ⟨nt, rfl⟩))
  refine ⟨x, t, dx, xs, bs, rfl, by rw [upd_ne tx]; exact upd_same, upd_same, hl, hb, fun i y b h1 h2 => (hN i y b h1 h2).same s0, fun H' s => ⟨fun h1 h2 => ⟨rfl, ?_⟩, fun h1 d fs hd => no _ d fs H' (same_trans s0 s) hd (.inl ⟨h1, rfl⟩), fun h1 h2 d fs hd => no _ d fs H' (same_trans s0 s) hd (.inr ⟨h1, by omega, rfl⟩)⟩⟩
  refine ok h1 h2 x _ (same_upd nx (same_trans s0 s)) ⟨dx, t, upd_same, ?_⟩
  rw [upd_ne (Ne.symm tx)]
  exact s _ _ upd_same
/-- Path(*row): a path or an error -/
def spOfRowX (K : PySem.W.Frag) : Sp := fun vs H Q E => ∃ (l : Addr) (xs : List V) (bs : List Bool), vs = [.ref l] ∧ H l = some (.lst xs) ∧ xs.length ≤ 13 ∧ bs.length = xs.length ∧ (∀ (i : Nat) (x : V) (b : Bool), xs[i]? = some x → bs[i]? = some b → NmV H x b) ∧
  (bs.all id = true → xs.length ≤ 12 → ∀ p H', Same H H' → PathV K H' p xs → Q (.ref p) H') ∧ (∀ C d fs H', Same H H' → H' d = some (.xd fs) → BadMake K bs C → E (.ref C) (some d) H')
theorem ok_law_path_of_row (T : Tx fa fn K mg) : Fn gd P w K mg base 5 (aG "_law_path_of_row" K) [] (spOfRowX K) := by
  obtain ⟨fd, F⟩ := F_law_path_of_row T
  refine fn_all F sc_law_path_of_row (fun vs H Q E h => ?_) (b_law_path_of_row F) (fun cdv A outer s H vs Q E hr h => ⟨_, (pss_cons (ps_if (pt_cmpR op_lt (pe_callB call_len_lh (by rfl) (T.free (T.c.fact 0 (f := fFree "len") rfl)) (by decide +kernel) (pa_cons (pv 0) pa_nil)) pe_int (nomark _))
 (pss_one (ps_ret (pe_ifExp (pt_cmpR op_eq (pe_callB call_len_lh (by rfl) (T.free (T.c.fact 0 (f := fFree "len") rfl)) (by decide +kernel) (pa_cons (pv 0) pa_nil)) pe_int (nomark _)) (pe_mk0 (mkr_ok (T.c.fact 33 (f := fMkr "Path") rfl)) (ok_Path_initX T) (hr.mono (by decide)) rfl (T.glo (T.c.fact 34 (f := fGlo "Path") rfl)) passD) (pe_ifExp (pt_cmpR op_eq (pe_callB call_len_lh (by rfl) (T.free (T.c.fact 0 (f := fFree "len") rfl)) (by decide +kernel) (pa_cons (pv 0) pa_nil)) pe_int (nomark _)) (pe_mk (mkr_ok (T.c.fact 33 (f := fMkr "Path") rfl)) (ok_Path_initX T) (hr.mono (by decide)) rfl (T.glo (T.c.fact 34 (f := fGlo "Path") rfl)) passD (pa_cons (pe_ix ix_lh (pv 0) pe_int (fun _ _ => rfl)) pa_nil)) (pe_mk (mkr_ok (T.c.fact 33 (f := fMkr "Path") rfl)) (ok_Path_initX T) (hr.mono (by decide)) rfl (T.glo (T.c.fact 34 (f := fGlo "Path") rfl)) passD (pa_cons (pe_ix ix_lh (pv 0) pe_int (fun _ _ => rfl)) (pa_cons (pe_ix ix_lh (pv 0) pe_int (fun _ _ => rfl)) pa_nil)))))))
 pss_nil)
 (pss_cons (ps_if (pt_cmpR op_lt (pe_callB call_len_lh (by rfl) (T.free (T.c.fact 0 (f := fFree "len") rfl)) (by decide +kernel) (pa_cons (pv 0) pa_nil)) pe_int (nomark _))
 (pss_one (ps_ret (pe_ifExp (pt_cmpR op_eq (pe_callB call_len_lh (by rfl) (T.free (T.c.fact 0 (f := fFree "len") rfl)) (by decide +kernel) (pa_cons (pv 0) pa_nil)) pe_int (nomark _)) (pe_mk (mkr_ok (T.c.fact 33 (f := fMkr "Path") rfl)) (ok_Path_initX T) (hr.mono (by decide)) rfl (T.glo (T.c.fact 34 (f := fGlo "Path") rfl)) passD (pa_cons (pe_ix ix_lh (pv 0) pe_int (fun _ _ => rfl)) (pa_cons (pe_ix ix_lh (pv 0) pe_int (fun _ _ => rfl)) (pa_cons (pe_ix ix_lh (pv 0) pe_int (fun _ _ => rfl)) pa_nil)))) (pe_mk (mkr_ok (T.c.fact 33 (f := fMkr "Path") rfl)) (ok_Path_initX T) (hr.mono (by decide)) rfl (T.glo (T.c.fact 34 (f := fGlo "Path") rfl)) passD (pa_cons (pe_ix ix_lh (pv 0) pe_int (fun _ _ => rfl)) (pa_cons (pe_ix ix_lh (pv 0) pe_int (fun _ _ => rfl)) (pa_cons (pe_ix ix_lh (pv 0) pe_int (fun _ _ => rfl)) (pa_cons (pe_ix ix_lh (pv 0) pe_int (fun _ _ => rfl)) pa_nil))))))))
 pss_nil)
 (pss_cons (ps_if (pt_cmpR op_eq (pe_callB call_len_lh (by rfl) (T.free (T.c.fact 0 (f := fFree "len") rfl)) (by decide +kernel) (pa_cons (pv 0) pa_nil)) pe_int (nomark _))
 (pss_one (ps_ret (pe_mk (mkr_ok (T.c.fact 33 (f := fMkr "Path") rfl)) (ok_Path_initX T) (hr.mono (by decide)) rfl (T.glo (T.c.fact 34 (f := fGlo "Path") rfl)) passD (pa_cons (pe_ix ix_lh (pv 0) pe_int (fun _ _ => rfl)) (pa_cons (pe_ix ix_lh (pv 0) pe_int (fun _ _ => rfl)) (pa_cons (pe_ix ix_lh (pv 0) pe_int (fun _ _ => rfl)) (pa_cons (pe_ix ix_lh (pv 0) pe_int (fun _ _ => rfl)) (pa_cons (pe_ix ix_lh (pv 0) pe_int (fun _ _ => rfl)) pa_nil))))))))
 pss_nil)
 (pss_cons (ps_if (pt_cmpR op_lt (pe_callB call_len_lh (by rfl) (T.free (T.c.fact 0 (f := fFree "len") rfl)) (by decide +kernel) (pa_cons (pv 0) pa_nil)) pe_int (nomark _))
 (pss_cons (ps_if (pt_cmpR op_eq (pe_callB call_len_lh (by rfl) (T.free (T.c.fact 0 (f := fFree "len") rfl)) (by decide +kernel) (pa_cons (pv 0) pa_nil)) pe_int (nomark _))
 (pss_one (ps_ret (pe_mk (mkr_ok (T.c.fact 33 (f := fMkr "Path") rfl)) (ok_Path_initX T) (hr.mono (by decide)) rfl (T.glo (T.c.fact 34 (f := fGlo "Path") rfl)) passD (pa_cons (pe_ix ix_lh (pv 0) pe_int (fun _ _ => rfl)) (pa_cons (pe_ix ix_lh (pv 0) pe_int (fun _ _ => rfl)) (pa_cons (pe_ix ix_lh (pv 0) pe_int (fun _ _ => rfl)) (pa_cons (pe_ix ix_lh (pv 0) pe_int (fun _ _ => rfl)) (pa_cons (pe_ix ix_lh (pv 0) pe_int (fun _ _ => rfl)) (pa_cons (pe_ix ix_lh (pv 0) pe_int (fun _ _ => rfl)) pa_nil)))))))))
 pss_nil)
 (pss_one (ps_ret (pe_mk (mkr_ok (T.c.fact 33 (f := fMkr "Path") rfl)) (ok_Path_initX T) (hr.mono (by decide)) rfl (T.glo (T.c.fact 34 (f := fGlo "Path") rfl)) passD (pa_cons (pe_ix ix_lh (pv 0) pe_int (fun _ _ => rfl)) (pa_cons (pe_ix ix_lh (pv 0) pe_int (fun _ _ => rfl)) (pa_cons (pe_ix ix_lh (pv 0) pe_int (fun _ _ => rfl)) (pa_cons (pe_ix ix_lh (pv 0) pe_int (fun _ _ => rfl)) (pa_cons (pe_ix ix_lh (pv 0) pe_int (fun _ _ => rfl)) (pa_cons (pe_ix ix_lh (pv 0) pe_int (fun _ _ => rfl)) (pa_cons (pe_ix ix_lh (pv 0) pe_int (fun _ _ => rfl)) pa_nil)))))))))))
 pss_nil)
 (pss_cons (ps_if (pt_cmpR op_lt (pe_callB call_len_lh (by rfl) (T.free (T.c.fact 0 (f := fFree "len") rfl)) (by decide +kernel) (pa_cons (pv 0) pa_nil)) pe_int (nomark _))
 (pss_cons (ps_if (pt_cmpR op_eq (pe_callB call_len_lh (by rfl) (T.free (T.c.fact 0 (f := fFree "len") rfl)) (by decide +kernel) (pa_cons (pv 0) pa_nil)) pe_int (nomark _))
 (pss_one (ps_ret (pe_mk (mkr_ok (T.c.fact 33 (f := fMkr "Path") rfl)) (ok_Path_initX T) (hr.mono (by decide)) rfl (T.glo (T.c.fact 34 (f := fGlo "Path") rfl)) passD (pa_cons (pe_ix ix_lh (pv 0) pe_int (fun _ _ => rfl)) (pa_cons (pe_ix ix_lh (pv 0) pe_int (fun _ _ => rfl)) (pa_cons (pe_ix ix_lh (pv 0) pe_int (fun _ _ => rfl)) (pa_cons (pe_ix ix_lh (pv 0) pe_int (fun _ _ => rfl)) (pa_cons (pe_ix ix_lh (pv 0) pe_int (fun _ _ => rfl)) (pa_cons (pe_ix ix_lh (pv 0) pe_int (fun _ _ => rfl)) (pa_cons (pe_ix ix_lh (pv 0) pe_int (fun _ _ => rfl)) (pa_cons (pe_ix ix_lh (pv 0) pe_int (fun _ _ => rfl)) pa_nil)))))))))))
 pss_nil)
 (pss_one (ps_ret (pe_mk (mkr_ok (T.c.fact 33 (f := fMkr "Path") rfl)) (ok_Path_initX T) (hr.mono (by decide)) rfl (T.glo (T.c.fact 34 (f := fGlo "Path") rfl)) passD (pa_cons (pe_ix ix_lh (pv 0) pe_int (fun _ _ => rfl)) (pa_cons (pe_ix ix_lh (pv 0) pe_int (fun _ _ => rfl)) (pa_cons (pe_ix ix_lh (pv 0) pe_int (fun _ _ => rfl)) (pa_cons (pe_ix ix_lh (pv 0) pe_int (fun _ _ => rfl)) (pa_cons (pe_ix ix_lh (pv 0) pe_int (fun _ _ => rfl)) (pa_cons (pe_ix ix_lh (pv 0) pe_int (fun _ _ => rfl)) (pa_cons (pe_ix ix_lh (pv 0) pe_int (fun _ _ => rfl)) (pa_cons (pe_ix ix_lh (pv 0) pe_int (fun _ _ => rfl)) (pa_cons (pe_ix ix_lh (pv 0) pe_int (fun _ _ => rfl)) pa_nil)))))))))))))
 pss_nil)
 (pss_cons (ps_if (pt_cmpR op_lt (pe_callB call_len_lh (by rfl) (T.free (T.c.fact 0 (f := fFree "len") rfl)) (by decide +kernel) (pa_cons (pv 0) pa_nil)) pe_int (nomark _))
 (pss_cons (ps_if (pt_cmpR op_eq (pe_callB call_len_lh (by rfl) (T.free (T.c.fact 0 (f := fFree "len") rfl)) (by decide +kernel) (pa_cons (pv 0) pa_nil)) pe_int (nomark _))
 (pss_one (ps_ret (pe_mk (mkr_ok (T.c.fact 33 (f := fMkr "Path") rfl)) (ok_Path_initX T) (hr.mono (by decide)) rfl (T.glo (T.c.fact 34 (f := fGlo "Path") rfl)) passD (pa_cons (pe_ix ix_lh (pv 0) pe_int (fun _ _ => rfl)) (pa_cons (pe_ix ix_lh (pv 0) pe_int (fun _ _ => rfl)) (pa_cons (pe_ix ix_lh (pv 0) pe_int (fun _ _ => rfl)) (pa_cons (pe_ix ix_lh (pv 0) pe_int (fun _ _ => rfl)) (pa_cons (pe_ix ix_lh (pv 0) pe_int (fun _ _ => rfl)) (pa_cons (pe_ix ix_lh (pv 0) pe_int (fun _ _ => rfl)) (pa_cons (pe_ix ix_lh (pv 0) pe_int (fun _ _ => rfl)) (pa_cons (pe_ix ix_lh (pv 0) pe_int (fun _ _ => rfl)) (pa_cons (pe_ix ix_lh (pv 0) pe_int (fun _ _ => rfl)) (pa_cons (pe_ix ix_lh (pv 0) pe_int (fun _ _ => rfl)) pa_nil)))))))))))))
 pss_nil)
 (pss_one (ps_ret (pe_mk (mkr_ok (T.c.fact 33 (f := fMkr "Path") rfl)) (ok_Path_initX T) (hr.mono (by decide)) rfl (T.glo (T.c.fact 34 (f := fGlo "Path") rfl)) passD (pa_cons (pe_ix ix_lh (pv 0) pe_int (fun _ _ => rfl)) (pa_cons (pe_ix ix_lh (pv 0) pe_int (fun _ _ => rfl)) (pa_cons (pe_ix ix_lh (pv 0) pe_int (fun _ _ => rfl)) (pa_cons (pe_ix ix_lh (pv 0) pe_int (fun _ _ => rfl)) (pa_cons (pe_ix ix_lh (pv 0) pe_int (fun _ _ => rfl)) (pa_cons (pe_ix ix_lh (pv 0) pe_int (fun _ _ => rfl)) (pa_cons (pe_ix ix_lh (pv 0) pe_int (fun _ _ => rfl)) (pa_cons (pe_ix ix_lh (pv 0) pe_int (fun _ _ => rfl)) (pa_cons (pe_ix ix_lh (pv 0) pe_int (fun _ _ => rfl)) (pa_cons (pe_ix ix_lh (pv 0) pe_int (fun _ _ => rfl)) (pa_cons (pe_ix ix_lh (pv 0) pe_int (fun _ _ => rfl)) pa_nil)))))))))))))))
 pss_nil)
 (pss_cons (ps_if (pt_cmpR op_eq (pe_callB call_len_lh (by rfl) (T.free (T.c.fact 0 (f := fFree "len") rfl)) (by decide +kernel) (pa_cons (pv 0) pa_nil)) pe_int (nomark _))
 (pss_one (ps_ret (pe_mk (mkr_ok (T.c.fact 33 (f := fMkr "Path") rfl)) (ok_Path_initX T) (hr.mono (by decide)) rfl (T.glo (T.c.fact 34 (f := fGlo "Path") rfl)) passD (pa_cons (pe_ix ix_lh (pv 0) pe_int (fun _ _ => rfl)) (pa_cons (pe_ix ix_lh (pv 0) pe_int (fun _ _ => rfl)) (pa_cons (pe_ix ix_lh (pv 0) pe_int (fun _ _ => rfl)) (pa_cons (pe_ix ix_lh (pv 0) pe_int (fun _ _ => rfl)) (pa_cons (pe_ix ix_lh (pv 0) pe_int (fun _ _ => rfl)) (pa_cons (pe_ix ix_lh (pv 0) pe_int (fun _ _ => rfl)) (pa_cons (pe_ix ix_lh (pv 0) pe_int (fun _ _ => rfl)) (pa_cons (pe_ix ix_lh (pv 0) pe_int (fun _ _ => rfl)) (pa_cons (pe_ix ix_lh (pv 0) pe_int (fun _ _ => rfl)) (pa_cons (pe_ix ix_lh (pv 0) pe_int (fun _ _ => rfl)) (pa_cons (pe_ix ix_lh (pv 0) pe_int (fun _ _ => rfl)) (pa_cons (pe_ix ix_lh (pv 0) pe_int (fun _ _ => rfl)) pa_nil)))))))))))))))
 pss_nil)
 (pss_one (ps_ret (pe_mk (mkr_ok (T.c.fact 33 (f := fMkr "Path") rfl)) (ok_Path_initX T) (hr.mono (by decide)) rfl (T.glo (T.c.fact 34 (f := fGlo "Path") rfl)) passD (pa_cons (pe_ix ix_lh (pv 0) pe_int (fun _ _ => rfl)) (pa_cons (pe_ix ix_lh (pv 0) pe_int (fun _ _ => rfl)) (pa_cons (pe_ix ix_lh (pv 0) pe_int (fun _ _ => rfl)) (pa_cons (pe_ix ix_lh (pv 0) pe_int (fun _ _ => rfl)) (pa_cons (pe_ix ix_lh (pv 0) pe_int (fun _ _ => rfl)) (pa_cons (pe_ix ix_lh (pv 0) pe_int (fun _ _ => rfl)) (pa_cons (pe_ix ix_lh (pv 0) pe_int (fun _ _ => rfl)) (pa_cons (pe_ix ix_lh (pv 0) pe_int (fun _ _ => rfl)) (pa_cons (pe_ix ix_lh (pv 0) pe_int (fun _ _ => rfl)) (pa_cons (pe_ix ix_lh (pv 0) pe_int (fun _ _ => rfl)) (pa_cons (pe_ix ix_lh (pv 0) pe_int (fun _ _ => rfl)) (pa_cons (pe_ix ix_lh (pv 0) pe_int (fun _ _ => rfl)) (pa_cons (pe_ix ix_lh (pv 0) pe_int (fun _ _ => rfl)) pa_nil))))))))))))))))))))))), ?_⟩)
  · first | (obtain ⟨_, e, _⟩ := h; subst e; rfl) | (obtain ⟨_, _, e, _⟩ := h; subst e; rfl) | (obtain ⟨_, _, _, e, _⟩ := h; subst e; rfl) | (obtain ⟨_, _, _, _, e, _⟩ := h; subst e; rfl) | (obtain ⟨_, _, _, _, _, e, _⟩ := h; subst e; rfl) | (obtain ⟨_, _, _, _, _, _, e, _⟩ := h; subst e; rfl) | (obtain ⟨_, _, _, _, _, _, _, e, _⟩ := h; subst e; rfl) | (obtain ⟨_, _, _, _, _, _, _, _, e, _⟩ := h; subst e; rfl) | (obtain ⟨_, _, _, _, _, _, _, _, _, e, _⟩ := h; subst e; rfl) | (obtain ⟨_, _, _, _, _, _, _, _, _, _, e, _⟩ := h; subst e; rfl) | (obtain ⟨_, _, _, _, _, _, _, _, _, _, _, e, _⟩ := h; subst e; rfl)
  obtain ⟨l, xs, bs, rfl, hl, hn, hb, hN, ok, no⟩ := h
  have fin := path_madeX (K := K) (Q := fun p H' => Q (.ref p) H') (E := E) (by omega) hb hN ok no
  clear ok no hN
  match xs, hl, fin, hn with
  | [], hl, fin, _ =>
    try simp only [cxK, r_lam, r_dnew, r_err, r_base, r_serr, r_var, r_c, r_seq, r_next, r_break, r_cont, r_drop, r_ret, r_retN, r_if, r_ife, r_asg, r_name, r_op, r_un, r_nil, r_cons, r_lst2, r_tup2, r_lc, r_for, r_ilist, r_itup, r_istr, r_irng1, r_irng2, r_ienum, r_ienumS, wipe, r_cb, r_test, r_b, r_not, r_notV, r_andV, r_orV, r_isN, r_notN, r_m1, r_m0, r_fld, sFld, putF, r_par, r_sub, r_gtup, r_gnil, r_gcons, r_sl, r_nopart, r_part, r_bm, r_bm0, r_chain, r_call, r_callK, r_meth, r_prop, r_make, r_and, r_or, andT_t, andT_f, orT_t, orT_f, ifK_t, ifK_f, ifE_t, ifE_f, andK_t, andK_f, orK_t, orK_f, L2.start, List.map_cons, List.map_nil, List.length_cons, List.length_nil, List.replicate_succ, List.replicate_zero, List.cons_append, List.nil_append, List.getElem?_cons_succ, List.getElem?_cons_zero, List.set_cons_succ, List.set_cons_zero, Nat.reduceAdd, Nat.reduceSub, Nat.zero_add, decide_true, decide_false, Bool.not_true, Bool.not_false, if_true, if_false, rEq, rNe, scal_ii, scal_ss, scal_bb, scal_is, scal_si, scal_ns, scal_ni, scal_in, scal_sn, scal_nn, rI, rI0, rU, rIxLH, rIxTH, rLenH, rLenTH, rSetL, rCatN, rTupOfN, rLstOfN, rSlLN, rSlTN, CDiv, CPow, CMul, CDivW, rNeNil, rLenO, rSplitN, rRepN, r_replC, rMulS, r_methK, rRepTN, r_cmK, rCmpO, rInO, r_ixO, r_revL, rInSelf, rCmpA, rBinO, Bool.false_xor, Bool.true_xor, r_starT, r_starL, r_cm, r_cval, selK_t, selK_f, rAppend, rIsK, reduceCtorEq, upd_same, at0, at1, at2, at3, at4, at5, at6, at7, at8, at9, at10, at11, at12, at13, ix3_0, ix3_1, ix3_2, V.int.injEq, V.bl.injEq, V.str.injEq, V.ref.injEq, Option.some.injEq, HO.lst.injEq, HO.tup.injEq, HO.ins.injEq, List.cons.injEq, and_true, true_and, exists_eq_left, exists_eq_left', exists_and_left, exists_eq', exists_eq, and_assoc, Int.cast_ofNat_Int, Int.reduceLT, Int.reduceLE, Int.reduceEq, Int.reduceAdd, Int.reduceSub, Int.reduceMul, Int.reduceNeg, N_law_path_of_row, hl]
    exact fin
  | [x0], hl, fin, _ =>
    try simp only [cxK, r_lam, r_dnew, r_err, r_base, r_serr, r_var, r_c, r_seq, r_next, r_break, r_cont, r_drop, r_ret, r_retN, r_if, r_ife, r_asg, r_name, r_op, r_un, r_nil, r_cons, r_lst2, r_tup2, r_lc, r_for, r_ilist, r_itup, r_istr, r_irng1, r_irng2, r_ienum, r_ienumS, wipe, r_cb, r_test, r_b, r_not, r_notV, r_andV, r_orV, r_isN, r_notN, r_m1, r_m0, r_fld, sFld, putF, r_par, r_sub, r_gtup, r_gnil, r_gcons, r_sl, r_nopart, r_part, r_bm, r_bm0, r_chain, r_call, r_callK, r_meth, r_prop, r_make, r_and, r_or, andT_t, andT_f, orT_t, orT_f, ifK_t, ifK_f, ifE_t, ifE_f, andK_t, andK_f, orK_t, orK_f, L2.start, List.map_cons, List.map_nil, List.length_cons, List.length_nil, List.replicate_succ, List.replicate_zero, List.cons_append, List.nil_append, List.getElem?_cons_succ, List.getElem?_cons_zero, List.set_cons_succ, List.set_cons_zero, Nat.reduceAdd, Nat.reduceSub, Nat.zero_add, decide_true, decide_false, Bool.not_true, Bool.not_false, if_true, if_false, rEq, rNe, scal_ii, scal_ss, scal_bb, scal_is, scal_si, scal_ns, scal_ni, scal_in, scal_sn, scal_nn, rI, rI0, rU, rIxLH, rIxTH, rLenH, rLenTH, rSetL, rCatN, rTupOfN, rLstOfN, rSlLN, rSlTN, CDiv, CPow, CMul, CDivW, rNeNil, rLenO, rSplitN, rRepN, r_replC, rMulS, r_methK, rRepTN, r_cmK, rCmpO, rInO, r_ixO, r_revL, rInSelf, rCmpA, rBinO, Bool.false_xor, Bool.true_xor, r_starT, r_starL, r_cm, r_cval, selK_t, selK_f, rAppend, rIsK, reduceCtorEq, upd_same, at0, at1, at2, at3, at4, at5, at6, at7, at8, at9, at10, at11, at12, at13, ix3_0, ix3_1, ix3_2, V.int.injEq, V.bl.injEq, V.str.injEq, V.ref.injEq, Option.some.injEq, HO.lst.injEq, HO.tup.injEq, HO.ins.injEq, List.cons.injEq, and_true, true_and, exists_eq_left, exists_eq_left', exists_and_left, exists_eq', exists_eq, and_assoc, Int.cast_ofNat_Int, Int.reduceLT, Int.reduceLE, Int.reduceEq, Int.reduceAdd, Int.reduceSub, Int.reduceMul, Int.reduceNeg, N_law_path_of_row, hl]
    exact fin
  | [x0, x1], hl, fin, _ =>
    try simp only [cxK, r_lam, r_dnew, r_err, r_base, r_serr, r_var, r_c, r_seq, r_next, r_break, r_cont, r_drop, r_ret, r_retN, r_if, r_ife, r_asg, r_name, r_op, r_un, r_nil, r_cons, r_lst2, r_tup2, r_lc, r_for, r_ilist, r_itup, r_istr, r_irng1, r_irng2, r_ienum, r_ienumS, wipe, r_cb, r_test, r_b, r_not, r_notV, r_andV, r_orV, r_isN, r_notN, r_m1, r_m0, r_fld, sFld, putF, r_par, r_sub, r_gtup, r_gnil, r_gcons, r_sl, r_nopart, r_part, r_bm, r_bm0, r_chain, r_call, r_callK, r_meth, r_prop, r_make, r_and, r_or, andT_t, andT_f, orT_t, orT_f, ifK_t, ifK_f, ifE_t, ifE_f, andK_t, andK_f, orK_t, orK_f, L2.start, List.map_cons, List.map_nil, List.length_cons, List.length_nil, List.replicate_succ, List.replicate_zero, List.cons_append, List.nil_append, List.getElem?_cons_succ, List.getElem?_cons_zero, List.set_cons_succ, List.set_cons_zero, Nat.reduceAdd, Nat.reduceSub, Nat.zero_add, decide_true, decide_false, Bool.not_true, Bool.not_false, if_true, if_false, rEq, rNe, scal_ii, scal_ss, scal_bb, scal_is, scal_si, scal_ns, scal_ni, scal_in, scal_sn, scal_nn, rI, rI0, rU, rIxLH, rIxTH, rLenH, rLenTH, rSetL, rCatN, rTupOfN, rLstOfN, rSlLN, rSlTN, CDiv, CPow, CMul, CDivW, rNeNil, rLenO, rSplitN, rRepN, r_replC, rMulS, r_methK, rRepTN, r_cmK, rCmpO, rInO, r_ixO, r_revL, rInSelf, rCmpA, rBinO, Bool.false_xor, Bool.true_xor, r_starT, r_starL, r_cm, r_cval, selK_t, selK_f, rAppend, rIsK, reduceCtorEq, upd_same, at0, at1, at2, at3, at4, at5, at6, at7, at8, at9, at10, at11, at12, at13, ix3_0, ix3_1, ix3_2, V.int.injEq, V.bl.injEq, V.str.injEq, V.ref.injEq, Option.some.injEq, HO.lst.injEq, HO.tup.injEq, HO.ins.injEq, List.cons.injEq, and_true, true_and, exists_eq_left, exists_eq_left', exists_and_left, exists_eq', exists_eq, and_assoc, Int.cast_ofNat_Int, Int.reduceLT, Int.reduceLE, Int.reduceEq, Int.reduceAdd, Int.reduceSub, Int.reduceMul, Int.reduceNeg, N_law_path_of_row, hl]
    exact fin
  | [x0, x1, x2], hl, fin, _ =>
    try simp only [cxK, r_lam, r_dnew, r_err, r_base, r_serr, r_var, r_c, r_seq, r_next, r_break, r_cont, r_drop, r_ret, r_retN, r_if, r_ife, r_asg, r_name, r_op, r_un, r_nil, r_cons, r_lst2, r_tup2, r_lc, r_for, r_ilist, r_itup, r_istr, r_irng1, r_irng2, r_ienum, r_ienumS, wipe, r_cb, r_test, r_b, r_not, r_notV, r_andV, r_orV, r_isN, r_notN, r_m1, r_m0, r_fld, sFld, putF, r_par, r_sub, r_gtup, r_gnil, r_gcons, r_sl, r_nopart, r_part, r_bm, r_bm0, r_chain, r_call, r_callK, r_meth, r_prop, r_make, r_and, r_or, andT_t, andT_f, orT_t, orT_f, ifK_t, ifK_f, ifE_t, ifE_f, andK_t, andK_f, orK_t, orK_f, L2.start, List.map_cons, List.map_nil, List.length_cons, List.length_nil, List.replicate_succ, List.replicate_zero, List.cons_append, List.nil_append, List.getElem?_cons_succ, List.getElem?_cons_zero, List.set_cons_succ, List.set_cons_zero, Nat.reduceAdd, Nat.reduceSub, Nat.zero_add, decide_true, decide_false, Bool.not_true, Bool.not_false, if_true, if_false, rEq, rNe, scal_ii, scal_ss, scal_bb, scal_is, scal_si, scal_ns, scal_ni, scal_in, scal_sn, scal_nn, rI, rI0, rU, rIxLH, rIxTH, rLenH, rLenTH, rSetL, rCatN, rTupOfN, rLstOfN, rSlLN, rSlTN, CDiv, CPow, CMul, CDivW, rNeNil, rLenO, rSplitN, rRepN, r_replC, rMulS, r_methK, rRepTN, r_cmK, rCmpO, rInO, r_ixO, r_revL, rInSelf, rCmpA, rBinO, Bool.false_xor, Bool.true_xor, r_starT, r_starL, r_cm, r_cval, selK_t, selK_f, rAppend, rIsK, reduceCtorEq, upd_same, at0, at1, at2, at3, at4, at5, at6, at7, at8, at9, at10, at11, at12, at13, ix3_0, ix3_1, ix3_2, V.int.injEq, V.bl.injEq, V.str.injEq, V.ref.injEq, Option.some.injEq, HO.lst.injEq, HO.tup.injEq, HO.ins.injEq, List.cons.injEq, and_true, true_and, exists_eq_left, exists_eq_left', exists_and_left, exists_eq', exists_eq, and_assoc, Int.cast_ofNat_Int, Int.reduceLT, Int.reduceLE, Int.reduceEq, Int.reduceAdd, Int.reduceSub, Int.reduceMul, Int.reduceNeg, N_law_path_of_row, hl]
    exact fin
  | [x0, x1, x2, x3], hl, fin, _ =>
    try simp only [cxK, r_lam, r_dnew, r_err, r_base, r_serr, r_var, r_c, r_seq, r_next, r_break, r_cont, r_drop, r_ret, r_retN, r_if, r_ife, r_asg, r_name, r_op, r_un, r_nil, r_cons, r_lst2, r_tup2, r_lc, r_for, r_ilist, r_itup, r_istr, r_irng1, r_irng2, r_ienum, r_ienumS, wipe, r_cb, r_test, r_b, r_not, r_notV, r_andV, r_orV, r_isN, r_notN, r_m1, r_m0, r_fld, sFld, putF, r_par, r_sub, r_gtup, r_gnil, r_gcons, r_sl, r_nopart, r_part, r_bm, r_bm0, r_chain, r_call, r_callK, r_meth, r_prop, r_make, r_and, r_or, andT_t, andT_f, orT_t, orT_f, ifK_t, ifK_f, ifE_t, ifE_f, andK_t, andK_f, orK_t, orK_f, L2.start, List.map_cons, List.map_nil, List.length_cons, List.length_nil, List.replicate_succ, List.replicate_zero, List.cons_append, List.nil_append, List.getElem?_cons_succ, List.getElem?_cons_zero, List.set_cons_succ, List.set_cons_zero, Nat.reduceAdd, Nat.reduceSub, Nat.zero_add, decide_true, decide_false, Bool.not_true, Bool.not_false, if_true, if_false, rEq, rNe, scal_ii, scal_ss, scal_bb, scal_is, scal_si, scal_ns, scal_ni, scal_in, scal_sn, scal_nn, rI, rI0, rU, rIxLH, rIxTH, rLenH, rLenTH, rSetL, rCatN, rTupOfN, rLstOfN, rSlLN, rSlTN, CDiv, CPow, CMul, CDivW, rNeNil, rLenO, rSplitN, rRepN, r_replC, rMulS, r_methK, rRepTN, r_cmK, rCmpO, rInO, r_ixO, r_revL, rInSelf, rCmpA, rBinO, Bool.false_xor, Bool.true_xor, r_starT, r_starL, r_cm, r_cval, selK_t, selK_f, rAppend, rIsK, reduceCtorEq, upd_same, at0, at1, at2, at3, at4, at5, at6, at7, at8, at9, at10, at11, at12, at13, ix3_0, ix3_1, ix3_2, V.int.injEq, V.bl.injEq, V.str.injEq, V.ref.injEq, Option.some.injEq, HO.lst.injEq, HO.tup.injEq, HO.ins.injEq, List.cons.injEq, and_true, true_and, exists_eq_left, exists_eq_left', exists_and_left, exists_eq', exists_eq, and_assoc, Int.cast_ofNat_Int, Int.reduceLT, Int.reduceLE, Int.reduceEq, Int.reduceAdd, Int.reduceSub, Int.reduceMul, Int.reduceNeg, N_law_path_of_row, hl]
    exact fin
  | [x0, x1, x2, x3, x4], hl, fin, _ =>
    try simp only [cxK, r_lam, r_dnew, r_err, r_base, r_serr, r_var, r_c, r_seq, r_next, r_break, r_cont, r_drop, r_ret, r_retN, r_if, r_ife, r_asg, r_name, r_op, r_un, r_nil, r_cons, r_lst2, r_tup2, r_lc, r_for, r_ilist, r_itup, r_istr, r_irng1, r_irng2, r_ienum, r_ienumS, wipe, r_cb, r_test, r_b, r_not, r_notV, r_andV, r_orV, r_isN, r_notN, r_m1, r_m0, r_fld, sFld, putF, r_par, r_sub, r_gtup, r_gnil, r_gcons, r_sl, r_nopart, r_part, r_bm, r_bm0, r_chain, r_call, r_callK, r_meth, r_prop, r_make, r_and, r_or, andT_t, andT_f, orT_t, orT_f, ifK_t, ifK_f, ifE_t, ifE_f, andK_t, andK_f, orK_t, orK_f, L2.start, List.map_cons, List.map_nil, List.length_cons, List.length_nil, List.replicate_succ, List.replicate_zero, List.cons_append, List.nil_append, List.getElem?_cons_succ, List.getElem?_cons_zero, List.set_cons_succ, List.set_cons_zero, Nat.reduceAdd, Nat.reduceSub, Nat.zero_add, decide_true, decide_false, Bool.not_true, Bool.not_false, if_true, if_false, rEq, rNe, scal_ii, scal_ss, scal_bb, scal_is, scal_si, scal_ns, scal_ni, scal_in, scal_sn, scal_nn, rI, rI0, rU, rIxLH, rIxTH, rLenH, rLenTH, rSetL, rCatN, rTupOfN, rLstOfN, rSlLN, rSlTN, CDiv, CPow, CMul, CDivW, rNeNil, rLenO, rSplitN, rRepN, r_replC, rMulS, r_methK, rRepTN, r_cmK, rCmpO, rInO, r_ixO, r_revL, rInSelf, rCmpA, rBinO, Bool.false_xor, Bool.true_xor, r_starT, r_starL, r_cm, r_cval, selK_t, selK_f, rAppend, rIsK, reduceCtorEq, upd_same, at0, at1, at2, at3, at4, at5, at6, at7, at8, at9, at10, at11, at12, at13, ix3_0, ix3_1, ix3_2, V.int.injEq, V.bl.injEq, V.str.injEq, V.ref.injEq, Option.some.injEq, HO.lst.injEq, HO.tup.injEq, HO.ins.injEq, List.cons.injEq, and_true, true_and, exists_eq_left, exists_eq_left', exists_and_left, exists_eq', exists_eq, and_assoc, Int.cast_ofNat_Int, Int.reduceLT, Int.reduceLE, Int.reduceEq, Int.reduceAdd, Int.reduceSub, Int.reduceMul, Int.reduceNeg, N_law_path_of_row, hl]
    exact fin
  | [x0, x1, x2, x3, x4, x5], hl, fin, _ =>
    try simp only [cxK, r_lam, r_dnew, r_err, r_base, r_serr, r_var, r_c, r_seq, r_next, r_break, r_cont, r_drop, r_ret, r_retN, r_if, r_ife, r_asg, r_name, r_op, r_un, r_nil, r_cons, r_lst2, r_tup2, r_lc, r_for, r_ilist, r_itup, r_istr, r_irng1, r_irng2, r_ienum, r_ienumS, wipe, r_cb, r_test, r_b, r_not, r_notV, r_andV, r_orV, r_isN, r_notN, r_m1, r_m0, r_fld, sFld, putF, r_par, r_sub, r_gtup, r_gnil, r_gcons, r_sl, r_nopart, r_part, r_bm, r_bm0, r_chain, r_call, r_callK, r_meth, r_prop, r_make, r_and, r_or, andT_t, andT_f, orT_t, orT_f, ifK_t, ifK_f, ifE_t, ifE_f, andK_t, andK_f, orK_t, orK_f, L2.start, List.map_cons, List.map_nil, List.length_cons, List.length_nil, List.replicate_succ, List.replicate_zero, List.cons_append, List.nil_append, List.getElem?_cons_succ, List.getElem?_cons_zero, List.set_cons_succ, List.set_cons_zero, Nat.reduceAdd, Nat.reduceSub, Nat.zero_add, decide_true, decide_false, Bool.not_true, Bool.not_false, if_true, if_false, rEq, rNe, scal_ii, scal_ss, scal_bb, scal_is, scal_si, scal_ns, scal_ni, scal_in, scal_sn, scal_nn, rI, rI0, rU, rIxLH, rIxTH, rLenH, rLenTH, rSetL, rCatN, rTupOfN, rLstOfN, rSlLN, rSlTN, CDiv, CPow, CMul, CDivW, rNeNil, rLenO, rSplitN, rRepN, r_replC, rMulS, r_methK, rRepTN, r_cmK, rCmpO, rInO, r_ixO, r_revL, rInSelf, rCmpA, rBinO, Bool.false_xor, Bool.true_xor, r_starT, r_starL, r_cm, r_cval, selK_t, selK_f, rAppend, rIsK, reduceCtorEq, upd_same, at0, at1, at2, at3, at4, at5, at6, at7, at8, at9, at10, at11, at12, at13, ix3_0, ix3_1, ix3_2, V.int.injEq, V.bl.injEq, V.str.injEq, V.ref.injEq, Option.some.injEq, HO.lst.injEq, HO.tup.injEq, HO.ins.injEq, List.cons.injEq, and_true, true_and, exists_eq_left, exists_eq_left', exists_and_left, exists_eq', exists_eq, and_assoc, Int.cast_ofNat_Int, Int.reduceLT, Int.reduceLE, Int.reduceEq, Int.reduceAdd, Int.reduceSub, Int.reduceMul, Int.reduceNeg, N_law_path_of_row, hl]
    exact fin
  | [x0, x1, x2, x3, x4, x5, x6], hl, fin, _ =>
    try simp only [cxK, r_lam, r_dnew, r_err, r_base, r_serr, r_var, r_c, r_seq, r_next, r_break, r_cont, r_drop, r_ret, r_retN, r_if, r_ife, r_asg, r_name, r_op, r_un, r_nil, r_cons, r_lst2, r_tup2, r_lc, r_for, r_ilist, r_itup, r_istr, r_irng1, r_irng2, r_ienum, r_ienumS, wipe, r_cb, r_test, r_b, r_not, r_notV, r_andV, r_orV, r_isN, r_notN, r_m1, r_m0, r_fld, sFld, putF, r_par, r_sub, r_gtup, r_gnil, r_gcons, r_sl, r_nopart, r_part, r_bm, r_bm0, r_chain, r_call, r_callK, r_meth, r_prop, r_make, r_and, r_or, andT_t, andT_f, orT_t, orT_f, ifK_t, ifK_f, ifE_t, ifE_f, andK_t, andK_f, orK_t, orK_f, L2.start, List.map_cons, List.map_nil, List.length_cons, List.length_nil, List.replicate_succ, List.replicate_zero, List.cons_append, List.nil_append, List.getElem?_cons_succ, List.getElem?_cons_zero, List.set_cons_succ, List.set_cons_zero, Nat.reduceAdd, Nat.reduceSub, Nat.zero_add, decide_true, decide_false, Bool.not_true, Bool.not_false, if_true, if_false, rEq, rNe, scal_ii, scal_ss, scal_bb, scal_is, scal_si, scal_ns, scal_ni, scal_in, scal_sn, scal_nn, rI, rI0, rU, rIxLH, rIxTH, rLenH, rLenTH, rSetL, rCatN, rTupOfN, rLstOfN, rSlLN, rSlTN, CDiv, CPow, CMul, CDivW, rNeNil, rLenO, rSplitN, rRepN, r_replC, rMulS, r_methK, rRepTN, r_cmK, rCmpO, rInO, r_ixO, r_revL, rInSelf, rCmpA, rBinO, Bool.false_xor, Bool.true_xor, r_starT, r_starL, r_cm, r_cval, selK_t, selK_f, rAppend, rIsK, reduceCtorEq, upd_same, at0, at1, at2, at3, at4, at5, at6, at7, at8, at9, at10, at11, at12, at13, ix3_0, ix3_1, ix3_2, V.int.injEq, V.bl.injEq, V.str.injEq, V.ref.injEq, Option.some.injEq, HO.lst.injEq, HO.tup.injEq, HO.ins.injEq, List.cons.injEq, and_true, true_and, exists_eq_left, exists_eq_left', exists_and_left, exists_eq', exists_eq, and_assoc, Int.cast_ofNat_Int, Int.reduceLT, Int.reduceLE, Int.reduceEq, Int.reduceAdd, Int.reduceSub, Int.reduceMul, Int.reduceNeg, N_law_path_of_row, hl]
    exact fin
  | [x0, x1, x2, x3, x4, x5, x6, x7], hl, fin, _ =>
    try simp only [cxK, r_lam, r_dnew, r_err, r_base, r_serr, r_var, r_c, r_seq, r_next, r_break, r_cont, r_drop, r_ret, r_retN, r_if, r_ife, r_asg, r_name, r_op, r_un, r_nil, r_cons, r_lst2, r_tup2, r_lc, r_for, r_ilist, r_itup, r_istr, r_irng1, r_irng2, r_ienum, r_ienumS, wipe, r_cb, r_test, r_b, r_not, r_notV, r_andV, r_orV, r_isN, r_notN, r_m1, r_m0, r_fld, sFld, putF, r_par, r_sub, r_gtup, r_gnil, r_gcons, r_sl, r_nopart, r_part, r_bm, r_bm0, r_chain, r_call, r_callK, r_meth, r_prop, r_make, r_and, r_or, andT_t, andT_f, orT_t, orT_f, ifK_t, ifK_f, ifE_t, ifE_f, andK_t, andK_f, orK_t, orK_f, L2.start, List.map_cons, List.map_nil, List.length_cons, List.length_nil, List.replicate_succ, List.replicate_zero, List.cons_append, List.nil_append, List.getElem?_cons_succ, List.getElem?_cons_zero, List.set_cons_succ, List.set_cons_zero, Nat.reduceAdd, Nat.reduceSub, Nat.zero_add, decide_true, decide_false, Bool.not_true, Bool.not_false, if_true, if_false, rEq, rNe, scal_ii, scal_ss, scal_bb, scal_is, scal_si, scal_ns, scal_ni, scal_in, scal_sn, scal_nn, rI, rI0, rU, rIxLH, rIxTH, rLenH, rLenTH, rSetL, rCatN, rTupOfN, rLstOfN, rSlLN, rSlTN, CDiv, CPow, CMul, CDivW, rNeNil, rLenO, rSplitN, rRepN, r_replC, rMulS, r_methK, rRepTN, r_cmK, rCmpO, rInO, r_ixO, r_revL, rInSelf, rCmpA, rBinO, Bool.false_xor, Bool.true_xor, r_starT, r_starL, r_cm, r_cval, selK_t, selK_f, rAppend, rIsK, reduceCtorEq, upd_same, at0, at1, at2, at3, at4, at5, at6, at7, at8, at9, at10, at11, at12, at13, ix3_0, ix3_1, ix3_2, V.int.injEq, V.bl.injEq, V.str.injEq, V.ref.injEq, Option.some.injEq, HO.lst.injEq, HO.tup.injEq, HO.ins.injEq, List.cons.injEq, and_true, true_and, exists_eq_left, exists_eq_left', exists_and_left, exists_eq', exists_eq, and_assoc, Int.cast_ofNat_Int, Int.reduceLT, Int.reduceLE, Int.reduceEq, Int.reduceAdd, Int.reduceSub, Int.reduceMul, Int.reduceNeg, N_law_path_of_row, hl]
    exact fin
  | [x0, x1, x2, x3, x4, x5, x6, x7, x8], hl, fin, _ =>
    try simp only [cxK, r_lam, r_dnew, r_err, r_base, r_serr, r_var, r_c, r_seq, r_next, r_break, r_cont, r_drop, r_ret, r_retN, r_if, r_ife, r_asg, r_name, r_op, r_un, r_nil, r_cons, r_lst2, r_tup2, r_lc, r_for, r_ilist, r_itup, r_istr, r_irng1, r_irng2, r_ienum, r_ienumS, wipe, r_cb, r_test, r_b, r_not, r_notV, r_andV, r_orV, r_isN, r_notN, r_m1, r_m0, r_fld, sFld, putF, r_par, r_sub, r_gtup, r_gnil, r_gcons, r_sl, r_nopart, r_part, r_bm, r_bm0, r_chain, r_call, r_callK, r_meth, r_prop, r_make, r_and, r_or, andT_t, andT_f, orT_t, orT_f, ifK_t, ifK_f, ifE_t, ifE_f, andK_t, andK_f, orK_t, orK_f, L2.start, List.map_cons, List.map_nil, List.length_cons, List.length_nil, List.replicate_succ, List.replicate_zero, List.cons_append, List.nil_append, List.getElem?_cons_succ, List.getElem?_cons_zero, List.set_cons_succ, List.set_cons_zero, Nat.reduceAdd, Nat.reduceSub, Nat.zero_add, decide_true, decide_false, Bool.not_true, Bool.not_false, if_true, if_false, rEq, rNe, scal_ii, scal_ss, scal_bb, scal_is, scal_si, scal_ns, scal_ni, scal_in, scal_sn, scal_nn, rI, rI0, rU, rIxLH, rIxTH, rLenH, rLenTH, rSetL, rCatN, rTupOfN, rLstOfN, rSlLN, rSlTN, CDiv, CPow, CMul, CDivW, rNeNil, rLenO, rSplitN, rRepN, r_replC, rMulS, r_methK, rRepTN, r_cmK, rCmpO, rInO, r_ixO, r_revL, rInSelf, rCmpA, rBinO, Bool.false_xor, Bool.true_xor, r_starT, r_starL, r_cm, r_cval, selK_t, selK_f, rAppend, rIsK, reduceCtorEq, upd_same, at0, at1, at2, at3, at4, at5, at6, at7, at8, at9, at10, at11, at12, at13, ix3_0, ix3_1, ix3_2, V.int.injEq, V.bl.injEq, V.str.injEq, V.ref.injEq, Option.some.injEq, HO.lst.injEq, HO.tup.injEq, HO.ins.injEq, List.cons.injEq, and_true, true_and, exists_eq_left, exists_eq_left', exists_and_left, exists_eq', exists_eq, and_assoc, Int.cast_ofNat_Int, Int.reduceLT, Int.reduceLE, Int.reduceEq, Int.reduceAdd, Int.reduceSub, Int.reduceMul, Int.reduceNeg, N_law_path_of_row, hl]
    exact fin
  | [x0, x1, x2, x3, x4, x5, x6, x7, x8, x9], hl, fin, _ =>
    try simp only [cxK, r_lam, r_dnew, r_err, r_base, r_serr, r_var, r_c, r_seq, r_next, r_break, r_cont, r_drop, r_ret, r_retN, r_if, r_ife, r_asg, r_name, r_op, r_un, r_nil, r_cons, r_lst2, r_tup2, r_lc, r_for, r_ilist, r_itup, r_istr, r_irng1, r_irng2, r_ienum, r_ienumS, wipe, r_cb, r_test, r_b, r_not, r_notV, r_andV, r_orV, r_isN, r_notN, r_m1, r_m0, r_fld, sFld, putF, r_par, r_sub, r_gtup, r_gnil, r_gcons, r_sl, r_nopart, r_part, r_bm, r_bm0, r_chain, r_call, r_callK, r_meth, r_prop, r_make, r_and, r_or, andT_t, andT_f, orT_t, orT_f, ifK_t, ifK_f, ifE_t, ifE_f, andK_t, andK_f, orK_t, orK_f, L2.start, List.map_cons, List.map_nil, List.length_cons, List.length_nil, List.replicate_succ, List.replicate_zero, List.cons_append, List.nil_append, List.getElem?_cons_succ, List.getElem?_cons_zero, List.set_cons_succ, List.set_cons_zero, Nat.reduceAdd, Nat.reduceSub, Nat.zero_add, decide_true, decide_false, Bool.not_true, Bool.not_false, if_true, if_false, rEq, rNe, scal_ii, scal_ss, scal_bb, scal_is, scal_si, scal_ns, scal_ni, scal_in, scal_sn, scal_nn, rI, rI0, rU, rIxLH, rIxTH, rLenH, rLenTH, rSetL, rCatN, rTupOfN, rLstOfN, rSlLN, rSlTN, CDiv, CPow, CMul, CDivW, rNeNil, rLenO, rSplitN, rRepN, r_replC, rMulS, r_methK, rRepTN, r_cmK, rCmpO, rInO, r_ixO, r_revL, rInSelf, rCmpA, rBinO, Bool.false_xor, Bool.true_xor, r_starT, r_starL, r_cm, r_cval, selK_t, selK_f, rAppend, rIsK, reduceCtorEq, upd_same, at0, at1, at2, at3, at4, at5, at6, at7, at8, at9, at10, at11, at12, at13, ix3_0, ix3_1, ix3_2, V.int.injEq, V.bl.injEq, V.str.injEq, V.ref.injEq, Option.some.injEq, HO.lst.injEq, HO.tup.injEq, HO.ins.injEq, List.cons.injEq, and_true, true_and, exists_eq_left, exists_eq_left', exists_and_left, exists_eq', exists_eq, and_assoc, Int.cast_ofNat_Int, Int.reduceLT, Int.reduceLE, Int.reduceEq, Int.reduceAdd, Int.reduceSub, Int.reduceMul, Int.reduceNeg, N_law_path_of_row, hl]
    exact fin
  | [x0, x1, x2, x3, x4, x5, x6, x7, x8, x9, x10], hl, fin, _ =>
    try simp only [cxK, r_lam, r_dnew, r_err, r_base, r_serr, r_var, r_c, r_seq, r_next, r_break, r_cont, r_drop, r_ret, r_retN, r_if, r_ife, r_asg, r_name, r_op, r_un, r_nil, r_cons, r_lst2, r_tup2, r_lc, r_for, r_ilist, r_itup, r_istr, r_irng1, r_irng2, r_ienum, r_ienumS, wipe, r_cb, r_test, r_b, r_not, r_notV, r_andV, r_orV, r_isN, r_notN, r_m1, r_m0, r_fld, sFld, putF, r_par, r_sub, r_gtup, r_gnil, r_gcons, r_sl, r_nopart, r_part, r_bm, r_bm0, r_chain, r_call, r_callK, r_meth, r_prop, r_make, r_and, r_or, andT_t, andT_f, orT_t, orT_f, ifK_t, ifK_f, ifE_t, ifE_f, andK_t, andK_f, orK_t, orK_f, L2.start, List.map_cons, List.map_nil, List.length_cons, List.length_nil, List.replicate_succ, List.replicate_zero, List.cons_append, List.nil_append, List.getElem?_cons_succ, List.getElem?_cons_zero, List.set_cons_succ, List.set_cons_zero, Nat.reduceAdd, Nat.reduceSub, Nat.zero_add, decide_true, decide_false, Bool.not_true, Bool.not_false, if_true, if_false, rEq, rNe, scal_ii, scal_ss, scal_bb, scal_is, scal_si, scal_ns, scal_ni, scal_in, scal_sn, scal_nn, rI, rI0, rU, rIxLH, rIxTH, rLenH, rLenTH, rSetL, rCatN, rTupOfN, rLstOfN, rSlLN, rSlTN, CDiv, CPow, CMul, CDivW, rNeNil, rLenO, rSplitN, rRepN, r_replC, rMulS, r_methK, rRepTN, r_cmK, rCmpO, rInO, r_ixO, r_revL, rInSelf, rCmpA, rBinO, Bool.false_xor, Bool.true_xor, r_starT, r_starL, r_cm, r_cval, selK_t, selK_f, rAppend, rIsK, reduceCtorEq, upd_same, at0, at1, at2, at3, at4, at5, at6, at7, at8, at9, at10, at11, at12, at13, ix3_0, ix3_1, ix3_2, V.int.injEq, V.bl.injEq, V.str.injEq, V.ref.injEq, Option.some.injEq, HO.lst.injEq, HO.tup.injEq, HO.ins.injEq, List.cons.injEq, and_true, true_and, exists_eq_left, exists_eq_left', exists_and_left, exists_eq', exists_eq, and_assoc, Int.cast_ofNat_Int, Int.reduceLT, Int.reduceLE, Int.reduceEq, Int.reduceAdd, Int.reduceSub, Int.reduceMul, Int.reduceNeg, N_law_path_of_row, hl]
    exact fin
  | [x0, x1, x2, x3, x4, x5, x6, x7, x8, x9, x10, x11], hl, fin, _ =>
    try simp only [cxK, r_lam, r_dnew, r_err, r_base, r_serr, r_var, r_c, r_seq, r_next, r_break, r_cont, r_drop, r_ret, r_retN, r_if, r_ife, r_asg, r_name, r_op, r_un, r_nil, r_cons, r_lst2, r_tup2, r_lc, r_for, r_ilist, r_itup, r_istr, r_irng1, r_irng2, r_ienum, r_ienumS, wipe, r_cb, r_test, r_b, r_not, r_notV, r_andV, r_orV, r_isN, r_notN, r_m1, r_m0, r_fld, sFld, putF, r_par, r_sub, r_gtup, r_gnil, r_gcons, r_sl, r_nopart, r_part, r_bm, r_bm0, r_chain, r_call, r_callK, r_meth, r_prop, r_make, r_and, r_or, andT_t, andT_f, orT_t, orT_f, ifK_t, ifK_f, ifE_t, ifE_f, andK_t, andK_f, orK_t, orK_f, L2.start, List.map_cons, List.map_nil, List.length_cons, List.length_nil, List.replicate_succ, List.replicate_zero, List.cons_append, List.nil_append, List.getElem?_cons_succ, List.getElem?_cons_zero, List.set_cons_succ, List.set_cons_zero, Nat.reduceAdd, Nat.reduceSub, Nat.zero_add, decide_true, decide_false, Bool.not_true, Bool.not_false, if_true, if_false, rEq, rNe, scal_ii, scal_ss, scal_bb, scal_is, scal_si, scal_ns, scal_ni, scal_in, scal_sn, scal_nn, rI, rI0, rU, rIxLH, rIxTH, rLenH, rLenTH, rSetL, rCatN, rTupOfN, rLstOfN, rSlLN, rSlTN, CDiv, CPow, CMul, CDivW, rNeNil, rLenO, rSplitN, rRepN, r_replC, rMulS, r_methK, rRepTN, r_cmK, rCmpO, rInO, r_ixO, r_revL, rInSelf, rCmpA, rBinO, Bool.false_xor, Bool.true_xor, r_starT, r_starL, r_cm, r_cval, selK_t, selK_f, rAppend, rIsK, reduceCtorEq, upd_same, at0, at1, at2, at3, at4, at5, at6, at7, at8, at9, at10, at11, at12, at13, ix3_0, ix3_1, ix3_2, V.int.injEq, V.bl.injEq, V.str.injEq, V.ref.injEq, Option.some.injEq, HO.lst.injEq, HO.tup.injEq, HO.ins.injEq, List.cons.injEq, and_true, true_and, exists_eq_left, exists_eq_left', exists_and_left, exists_eq', exists_eq, and_assoc, Int.cast_ofNat_Int, Int.reduceLT, Int.reduceLE, Int.reduceEq, Int.reduceAdd, Int.reduceSub, Int.reduceMul, Int.reduceNeg, N_law_path_of_row, hl]
    exact fin
  | [x0, x1, x2, x3, x4, x5, x6, x7, x8, x9, x10, x11, x12], hl, fin, _ =>
    try simp only [cxK, r_lam, r_dnew, r_err, r_base, r_serr, r_var, r_c, r_seq, r_next, r_break, r_cont, r_drop, r_ret, r_retN, r_if, r_ife, r_asg, r_name, r_op, r_un, r_nil, r_cons, r_lst2, r_tup2, r_lc, r_for, r_ilist, r_itup, r_istr, r_irng1, r_irng2, r_ienum, r_ienumS, wipe, r_cb, r_test, r_b, r_not, r_notV, r_andV, r_orV, r_isN, r_notN, r_m1, r_m0, r_fld, sFld, putF, r_par, r_sub, r_gtup, r_gnil, r_gcons, r_sl, r_nopart, r_part, r_bm, r_bm0, r_chain, r_call, r_callK, r_meth, r_prop, r_make, r_and, r_or, andT_t, andT_f, orT_t, orT_f, ifK_t, ifK_f, ifE_t, ifE_f, andK_t, andK_f, orK_t, orK_f, L2.start, List.map_cons, List.map_nil, List.length_cons, List.length_nil, List.replicate_succ, List.replicate_zero, List.cons_append, List.nil_append, List.getElem?_cons_succ, List.getElem?_cons_zero, List.set_cons_succ, List.set_cons_zero, Nat.reduceAdd, Nat.reduceSub, Nat.zero_add, decide_true, decide_false, Bool.not_true, Bool.not_false, if_true, if_false, rEq, rNe, scal_ii, scal_ss, scal_bb, scal_is, scal_si, scal_ns, scal_ni, scal_in, scal_sn, scal_nn, rI, rI0, rU, rIxLH, rIxTH, rLenH, rLenTH, rSetL, rCatN, rTupOfN, rLstOfN, rSlLN, rSlTN, CDiv, CPow, CMul, CDivW, rNeNil, rLenO, rSplitN, rRepN, r_replC, rMulS, r_methK, rRepTN, r_cmK, rCmpO, rInO, r_ixO, r_revL, rInSelf, rCmpA, rBinO, Bool.false_xor, Bool.true_xor, r_starT, r_starL, r_cm, r_cval, selK_t, selK_f, rAppend, rIsK, reduceCtorEq, upd_same, at0, at1, at2, at3, at4, at5, at6, at7, at8, at9, at10, at11, at12, at13, ix3_0, ix3_1, ix3_2, V.int.injEq, V.bl.injEq, V.str.injEq, V.ref.injEq, Option.some.injEq, HO.lst.injEq, HO.tup.injEq, HO.ins.injEq, List.cons.injEq, and_true, true_and, exists_eq_left, exists_eq_left', exists_and_left, exists_eq', exists_eq, and_assoc, Int.cast_ofNat_Int, Int.reduceLT, Int.reduceLE, Int.reduceEq, Int.reduceAdd, Int.reduceSub, Int.reduceMul, Int.reduceNeg, N_law_path_of_row, hl]
    exact fin
  | (_ :: _ :: _ :: _ :: _ :: _ :: _ :: _ :: _ :: _ :: _ :: _ :: _ :: _ :: _), _, _, hn => exact absurd hn (by simp only [List.length_cons]; omega)
def spOfRow (K : PySem.W.Frag) : Sp := fun vs H Q _ => ∃ (l : Addr) (ns : List Str), vs = [.ref l] ∧ H l = some (.lst (ns.map V.str)) ∧ ns.length ≤ 12 ∧ (∀ x ∈ ns, isNm x = true) ∧ ∀ p H', Same H H' → IsPath K H' p ns → Q (.ref p) H'
theorem nmVs {H : Hp} {ns : List Str} (h : ∀ x ∈ ns, isNm x = true) : ∀ (i : Nat) (x : V) (b : Bool), (ns.map V.str)[i]? = some x → (List.replicate ns.length true)[i]? = some b → NmV H x b := fun i x b hx hb => by
  rw [List.getElem?_map] at hx
  obtain ⟨z, hz, rfl⟩ := Option.map_eq_some_iff.mp hx
  have hb2 := List.mem_replicate.mp (List.mem_of_getElem? hb)
  have hz2 := h z (List.mem_of_getElem? hz)
  exact .inl ⟨z, rfl, by have := (isNm_fits hz2).1; show z.length ≤ 16000000; omega, by rw [hb2.2, hz2]⟩
theorem ok_law_path_of_rowN (T : Tx fa fn K mg) : Fn gd P w K mg base 5 (aG "_law_path_of_row" K) [] (spOfRow K) :=
  (ok_law_path_of_row T).imp fun vs H Q E ⟨l, ns, e, hl, h12, hN, q⟩ => ⟨l, ns.map V.str, List.replicate ns.length true, e, hl, by simp; omega, by simp, nmVs hN, fun _ _ p H' s hp => q p H' s hp, fun C d fs H' s hd bad => by
    have al : (List.replicate ns.length true).all id = true := by simp
    rcases bad with ⟨hf, _⟩ | ⟨_, h, _⟩
    · rw [al] at hf
      cases hf
    · simp at h
      omega⟩

end

section
variable {gd : Bool} {P : Program} {w : World} {K : PySem.W.Frag} {mg : Str → Option Value} {base : Heap}

def bads : List Str := ["", ".", "..", "A", "a b", "abcdefghijklm", "a/b", "/", "a\n", "a+"]
def badsN : List Str := ([[], [46], [46, 46], [65], [97, 32, 98], [97, 98, 99, 100, 101, 102, 103, 104, 105, 106, 107, 108, 109], [97, 47, 98], [47], [97, 10], [97, 43]] : List (List Nat)).map fun l => ⟨l.toArray⟩
theorem bads_eq : bads = badsN := by decide +kernel
theorem bads_nm : ∀ x ∈ bads, isNm x = false ∧ x.cps.size ≤ 100 := by
  rw [bads_eq]
  decide +kernel
theorem NmV.oth {H H' : Hp} {v : V} {b : Bool} {a : Addr} (h : NmV H v b) (s : Oth a H H') (n : v ≠ .ref a) : NmV H' v b := by
  rcases h with h | ⟨h, e⟩
  · exact .inl h
  · refine .inr ⟨?_, e⟩
    rcases h with h | h | h | ⟨p, xs, rfl, h⟩
    · exact .inl h
    · exact .inr (.inl h)
    · exact .inr (.inr (.inl h))
    · have np : p ≠ a := fun e => n (by rw [e])
      rcases h with h | h | ⟨kvs, h⟩
      · exact .inr (.inr (.inr ⟨p, xs, rfl, .inl (s _ _ np h)⟩))
      · exact .inr (.inr (.inr ⟨p, xs, rfl, .inr (.inl (s _ _ np h))⟩))
      · exact .inr (.inr (.inr ⟨p, xs, rfl, .inr (.inr ⟨kvs, s _ _ np h⟩)⟩))
def spBadName : Sp := fun vs H Q _ => ∃ (a : Addr) (j : Int), vs = [.ref a] ∧ Src H a j ∧ j < 1099511627776 ∧ ∀ (v : V) (j' : Int) (H' : Hp), NmV H' v false → (∀ p, v = .ref p → H p = none) → j ≤ j' → j' ≤ j + 1 → Oth a H H' → Src H' a j' → Q v H'
theorem ok_law_bad_name (T : Tx fa fn K mg) : Fn gd P w K mg base 3 (aG "_law_bad_name" K) [] spBadName := by
  obtain ⟨fd, F⟩ := F_law_bad_name T
  refine fn_all F sc_law_bad_name (fun vs H Q E h => ?_) (b_law_bad_name F) (fun cdv A outer s H vs Q E hr h => ⟨_, (pss_cons (ps_set (i := 1) sc_law_bad_name.nd rfl (Or.inl rfl) (pe_lst (pa_cons pe_str (pa_cons pe_str (pa_cons pe_str (pa_cons pe_str (pa_cons pe_str (pa_cons pe_str (pa_cons pe_str (pa_cons pe_str (pa_cons pe_str (pa_cons pe_str (pa_cons pe_non (pa_cons pe_int (pa_cons pe_bl (pa_cons (pe_tup (pa_cons pe_str pa_nil)) (pa_cons (pe_lst (pa_cons pe_str pa_nil)) (pa_cons pe_dnewK (pa_cons pe_int pa_nil)))))))))))))))))))
 (pss_one (ps_ret (pe_fn (ok_law_pick T) (hr.mono (by decide)) rfl (g_law_pick T) (k_law_pick T) passD (pa_cons (pv 0) (pa_cons (pv 1) pa_nil)))))), ?_⟩)
  · first | (obtain ⟨_, e, _⟩ := h; subst e; rfl) | (obtain ⟨_, _, e, _⟩ := h; subst e; rfl) | (obtain ⟨_, _, _, e, _⟩ := h; subst e; rfl) | (obtain ⟨_, _, _, _, e, _⟩ := h; subst e; rfl) | (obtain ⟨_, _, _, _, _, e, _⟩ := h; subst e; rfl) | (obtain ⟨_, _, _, _, _, _, e, _⟩ := h; subst e; rfl) | (obtain ⟨_, _, _, _, _, _, _, e, _⟩ := h; subst e; rfl) | (obtain ⟨_, _, _, _, _, _, _, _, e, _⟩ := h; subst e; rfl) | (obtain ⟨_, _, _, _, _, _, _, _, _, e, _⟩ := h; subst e; rfl) | (obtain ⟨_, _, _, _, _, _, _, _, _, _, e, _⟩ := h; subst e; rfl) | (obtain ⟨_, _, _, _, _, _, _, _, _, _, _, e, _⟩ := h; subst e; rfl)
  obtain ⟨a, j, rfl, hs, j1, q⟩ := h
  try simp only [cxK, r_lam, r_dnew, r_err, r_base, r_serr, r_var, r_c, r_seq, r_next, r_break, r_cont, r_drop, r_ret, r_retN, r_if, r_ife, r_asg, r_name, r_op, r_un, r_nil, r_cons, r_lst2, r_tup2, r_lc, r_for, r_ilist, r_itup, r_istr, r_irng1, r_irng2, r_ienum, r_ienumS, wipe, r_cb, r_test, r_b, r_not, r_notV, r_andV, r_orV, r_isN, r_notN, r_m1, r_m0, r_fld, sFld, putF, r_par, r_sub, r_gtup, r_gnil, r_gcons, r_sl, r_nopart, r_part, r_bm, r_bm0, r_chain, r_call, r_callK, r_meth, r_prop, r_make, r_and, r_or, andT_t, andT_f, orT_t, orT_f, ifK_t, ifK_f, ifE_t, ifE_f, andK_t, andK_f, orK_t, orK_f, L2.start, List.map_cons, List.map_nil, List.length_cons, List.length_nil, List.replicate_succ, List.replicate_zero, List.cons_append, List.nil_append, List.getElem?_cons_succ, List.getElem?_cons_zero, List.set_cons_succ, List.set_cons_zero, Nat.reduceAdd, Nat.reduceSub, Nat.zero_add, decide_true, decide_false, Bool.not_true, Bool.not_false, if_true, if_false, rEq, rNe, scal_ii, scal_ss, scal_bb, scal_is, scal_si, scal_ns, scal_ni, scal_in, scal_sn, scal_nn, rI, rI0, rU, rIxLH, rIxTH, rLenH, rLenTH, rSetL, rCatN, rTupOfN, rLstOfN, rSlLN, rSlTN, CDiv, CPow, CMul, CDivW, rNeNil, rLenO, rSplitN, rRepN, r_replC, rMulS, r_methK, rRepTN, r_cmK, rCmpO, rInO, r_ixO, r_revL, rInSelf, rCmpA, rBinO, Bool.false_xor, Bool.true_xor, r_starT, r_starL, r_cm, r_cval, selK_t, selK_f, rAppend, rIsK, reduceCtorEq, upd_same, at0, at1, at2, at3, at4, at5, at6, at7, at8, at9, at10, at11, at12, at13, ix3_0, ix3_1, ix3_2, V.int.injEq, V.bl.injEq, V.str.injEq, V.ref.injEq, Option.some.injEq, HO.lst.injEq, HO.tup.injEq, HO.ins.injEq, List.cons.injEq, and_true, true_and, exists_eq_left, exists_eq_left', exists_and_left, exists_eq', exists_eq, and_assoc, N_law_bad_name]
  refine ⟨fits (by decide), fun p1 H1 n1 => ⟨fits (by decide), fun p2 H2 n2 => fun p3 H3 n3 => ⟨fits (by decide), fun l H4 n4 => ?_⟩⟩⟩
  have s4 := same_trans n1.same (same_trans n2.same (same_trans n3.same n4.same))
  have hs4 := hs.same s4
  have na : ∀ {p : Addr}, H p = none → a ≠ p := fun n => hs.ne n
  have pn : ∀ {p : Addr} {G : Hp}, Same H G → G p = none → H p = none := fun {p G} s g => by
    cases e : H p with
    | none => rfl
    | some o => rw [s _ _ e] at g; cases g
  have hat : H4 l = some (.lst (bads.map V.str ++ [.non, .int 5, .bl true, .ref p1, .ref p2, .ref p3, .int 0])) := n4.at_
  try simp only [cxK, r_lam, r_dnew, r_err, r_base, r_serr, r_var, r_c, r_seq, r_next, r_break, r_cont, r_drop, r_ret, r_retN, r_if, r_ife, r_asg, r_name, r_op, r_un, r_nil, r_cons, r_lst2, r_tup2, r_lc, r_for, r_ilist, r_itup, r_istr, r_irng1, r_irng2, r_ienum, r_ienumS, wipe, r_cb, r_test, r_b, r_not, r_notV, r_andV, r_orV, r_isN, r_notN, r_m1, r_m0, r_fld, sFld, putF, r_par, r_sub, r_gtup, r_gnil, r_gcons, r_sl, r_nopart, r_part, r_bm, r_bm0, r_chain, r_call, r_callK, r_meth, r_prop, r_make, r_and, r_or, andT_t, andT_f, orT_t, orT_f, ifK_t, ifK_f, ifE_t, ifE_f, andK_t, andK_f, orK_t, orK_f, L2.start, List.map_cons, List.map_nil, List.length_cons, List.length_nil, List.replicate_succ, List.replicate_zero, List.cons_append, List.nil_append, List.getElem?_cons_succ, List.getElem?_cons_zero, List.set_cons_succ, List.set_cons_zero, Nat.reduceAdd, Nat.reduceSub, Nat.zero_add, decide_true, decide_false, Bool.not_true, Bool.not_false, if_true, if_false, rEq, rNe, scal_ii, scal_ss, scal_bb, scal_is, scal_si, scal_ns, scal_ni, scal_in, scal_sn, scal_nn, rI, rI0, rU, rIxLH, rIxTH, rLenH, rLenTH, rSetL, rCatN, rTupOfN, rLstOfN, rSlLN, rSlTN, CDiv, CPow, CMul, CDivW, rNeNil, rLenO, rSplitN, rRepN, r_replC, rMulS, r_methK, rRepTN, r_cmK, rCmpO, rInO, r_ixO, r_revL, rInSelf, rCmpA, rBinO, Bool.false_xor, Bool.true_xor, r_starT, r_starL, r_cm, r_cval, selK_t, selK_f, rAppend, rIsK, reduceCtorEq, upd_same, at0, at1, at2, at3, at4, at5, at6, at7, at8, at9, at10, at11, at12, at13, ix3_0, ix3_1, ix3_2, V.int.injEq, V.bl.injEq, V.str.injEq, V.ref.injEq, Option.some.injEq, HO.lst.injEq, HO.tup.injEq, HO.ins.injEq, List.cons.injEq, and_true, true_and, exists_eq_left, exists_eq_left', exists_and_left, exists_eq', exists_eq, and_assoc, N_law_bad_name]
  refine ⟨a, l, j, _, rfl, fun e => na (pn (same_trans n1.same (same_trans n2.same n3.same)) n4.1) e.symm, hat, by simp, by simp [bads], hs4, j1, fun i v j' H' hi j2 j3 ho hs' => ?_⟩
  have d1 : p1 ≠ a := fun e => na n1.1 e.symm
  have d2 : p2 ≠ a := fun e => na (pn n1.same n2.1) e.symm
  have d3 : p3 ≠ a := fun e => na (pn (same_trans n1.same n2.same) n3.1) e.symm
  have key : NmV H4 v false ∧ v ≠ .ref a ∧ ∀ p, v = .ref p → H p = none := by
    have hm := List.mem_of_getElem? hi
    rcases List.mem_append.mp hm with h | h
    · obtain ⟨z, hz, rfl⟩ := List.mem_map.mp h
      have := bads_nm z hz
      exact ⟨.inl ⟨z, rfl, by omega, this.1.symm⟩, nofun, nofun⟩
    · simp only [List.mem_cons, List.not_mem_nil, or_false] at h
      rcases h with rfl | rfl | rfl | rfl | rfl | rfl | rfl
      · exact ⟨.inr ⟨.inl rfl, rfl⟩, nofun, nofun⟩
      · exact ⟨.inr ⟨.inr (.inl ⟨_, rfl⟩), rfl⟩, nofun, nofun⟩
      · exact ⟨.inr ⟨.inr (.inr (.inl ⟨_, rfl⟩)), rfl⟩, nofun, nofun⟩
      · exact ⟨.inr ⟨.inr (.inr (.inr ⟨p1, _, rfl, .inl (n4.old (n3.old (n2.old n1.at_)))⟩)), rfl⟩, fun e => d1 (V.ref.inj e), fun p e => by cases e; exact n1.1⟩
      · exact ⟨.inr ⟨.inr (.inr (.inr ⟨p2, _, rfl, .inr (.inl (n4.old (n3.old n2.at_)))⟩)), rfl⟩, fun e => d2 (V.ref.inj e), fun p e => by cases e; exact pn n1.same n2.1⟩
      · exact ⟨.inr ⟨.inr (.inr (.inr ⟨p3, [], rfl, .inr (.inr ⟨_, n4.old n3.at_⟩)⟩)), rfl⟩, fun e => d3 (V.ref.inj e), fun p e => by cases e; exact pn (same_trans n1.same n2.same) n3.1⟩
      · exact ⟨.inr ⟨.inr (.inl ⟨_, rfl⟩), rfl⟩, nofun, nofun⟩
  exact q v j' H' (key.1.oth ho key.2.1) key.2.2 j2 j3 (Oth.trans (Oth.of s4) ho) hs'

end

section
variable {gd : Bool} {P : Program} {w : World} {K : PySem.W.Frag} {mg : Str → Option Value} {base : Heap}

/-- all but a and the tables stays -/
def OthN (a : Addr) (H H' : Hp) : Prop := ∀ b o, b ≠ a → H b = some o → (∀ ps, o ≠ .tbl ps) → H' b = some o
theorem OthN.of {a : Addr} {H H' : Hp} (h : Oth a H H') : OthN a H H' := fun b o n e _ => h b o n e
theorem OthN.trans {a : Addr} {H H1 H2 : Hp} (h : OthN a H H1) (k : OthN a H1 H2) : OthN a H H2 := fun b o n e t => k b o n (h b o n e t) t
theorem OthN.ext {a : Addr} {H H' : Hp} (h : LamX.ExtN H H') : OthN a H H' := fun b o _ e t => h b o e t
theorem OthN.same {a : Addr} {H H' : Hp} (h : Same H H') : OthN a H H' := fun b o _ e _ => h b o e
theorem OthN.fresh {a p : Addr} {o : HO} {H H1 : Hp} (h : OthN a H H1) (n : H p = none) : OthN a H (upd H1 p o) := fun b x k e t => by
  rw [upd_ne (fun z => by subst z; rw [n] at e; cases e)]
  exact h b x k e t
theorem tabs_oth {T : List (Addr × Str)} {H H' : Hp} {a : Addr} {xs : List V} (t : LamX.Tabs T H) (o : Oth a H H') (ha : H a = some (.lst xs)) : LamX.Tabs T H' := fun p hp => by
  obtain ⟨ps, h1, h2, h3⟩ := t p hp
  refine ⟨ps, o _ _ (fun e => ?_) h1, h2, fun pos cv hc => ?_⟩
  · rw [e, ha] at h1
    cases h1
  · obtain ⟨c, e1, e2⟩ := h3 pos cv hc
    refine ⟨c, e1, o _ _ (fun e => ?_) e2⟩
    rw [e, ha] at e2
    cases e2
theorem tabs_same {T : List (Addr × Str)} {H H' : Hp} (t : LamX.Tabs T H) (s : Same H H') : LamX.Tabs T H' := t.ext s
theorem tabs_upd {T : List (Addr × Str)} {H : Hp} {a : Addr} {xs : List V} {o : HO} (t : LamX.Tabs T H) (ha : H a = some (.lst xs)) : LamX.Tabs T (upd H a o) := tabs_oth t (fun b x n e => by rw [upd_ne n]; exact e) ha
theorem Src.othN {H H' : Hp} {a : Addr} {j : Int} (h : Src H a j) (s : LamX.ExtN H H') : Src H' a j := let ⟨c, d, e, z⟩ := h; ⟨c, d, s _ _ e nofun, z⟩
theorem ext_oth {a : Addr} {H H1 H2 : Hp} (n : H a = none) (s : LamX.ExtN H H1) (o : OthN a H1 H2) : LamX.ExtN H H2 := fun b x e t => o b x (fun z => by rw [z, n] at e; cases e) (s b x e t) t
theorem ext_trans {H H1 H2 : Hp} (s : LamX.ExtN H H1) (o : LamX.ExtN H1 H2) : LamX.ExtN H H2 := s.trans o
theorem ext_same {H H1 : Hp} (s : Same H H1) : LamX.ExtN H H1 := LamX.ExtN.of s
theorem sqL_ext {K : PySem.W.Frag} {H H' : Hp} {a : Addr} {xs : List V} (h : SqL K H a xs) (s : LamX.ExtN H H') : SqL K H' a xs := by
  rcases h with (h | ⟨so, h⟩) | h
  · exact .inl (.inl (s _ _ h nofun))
  · exact .inl (.inr ⟨so, s _ _ h nofun⟩)
  · exact .inr h
/-- a new object, the others but tables kept -/
theorem ext_none {H H' : Hp} {p : Addr} (s : LamX.ExtN H H') (n : H' p = none) (t : ∀ ps, H p ≠ some (.tbl ps)) : H p = none := by
  cases e : H p with
  | none => rfl
  | some o =>
    have z := s p o e fun ps h => t ps (by rw [e, h])
    rw [n] at z
    cases z

end

section
variable {gd : Bool} {P : Program} {w : World} {K : PySem.W.Frag} {mg : Str → Option Value} {base : Heap}

def spSpelled : Sp := fun vs H Q _ => ∃ (l : Addr) (ns : List Str), vs = [.ref l] ∧ H l = some (.lst (ns.map V.str)) ∧ Nms ns ∧ ∀ H', Same H H' → Q (.str (textOf ns)) H'
theorem ok_law_spelled (T : Tx fa fn K mg) : Fn gd P w K mg base 1 (aG "_law_spelled" K) [] spSpelled := by
  obtain ⟨fd, F⟩ := F_law_spelled T
  refine fn_all F sc_law_spelled (fun vs H Q E h => ?_) (b_law_spelled F) (fun cdv A outer s H vs Q E hr h => ⟨_, (pss_one (ps_ret (pe_ifExp (pt_cmpR (op_neD hr.r.units) (pv 0) (pe_lst pa_nil) (nomark _)) (pe_join pe_str (pe_lc (own := [("_law_name", 1)]) (g := gName 1) (tt := tYes) rfl sc_law_spelled.nd (pi_list (pv 0)) (blkOk_by (own := [("_law_name", 1)]) (N := N_law_spelled) (sc := defScope s_law_spelled) (by decide +kernel)) (fun _ _ _ _ _ => (pg_name (i := 1) sc_law_spelled.nd rfl (Or.inl rfl))) (fun _ _ _ _ _ => pts_nil) (fun _ _ _ _ _ => (pe_op op_add_str pe_str (pv 1))))) pe_str))), ?_⟩)
  · first | (obtain ⟨_, e, _⟩ := h; subst e; rfl) | (obtain ⟨_, _, e, _⟩ := h; subst e; rfl) | (obtain ⟨_, _, _, e, _⟩ := h; subst e; rfl) | (obtain ⟨_, _, _, _, e, _⟩ := h; subst e; rfl) | (obtain ⟨_, _, _, _, _, e, _⟩ := h; subst e; rfl) | (obtain ⟨_, _, _, _, _, _, e, _⟩ := h; subst e; rfl) | (obtain ⟨_, _, _, _, _, _, _, e, _⟩ := h; subst e; rfl) | (obtain ⟨_, _, _, _, _, _, _, _, e, _⟩ := h; subst e; rfl) | (obtain ⟨_, _, _, _, _, _, _, _, _, e, _⟩ := h; subst e; rfl) | (obtain ⟨_, _, _, _, _, _, _, _, _, _, e, _⟩ := h; subst e; rfl) | (obtain ⟨_, _, _, _, _, _, _, _, _, _, _, e, _⟩ := h; subst e; rfl)
  obtain ⟨t, ns, rfl, ht, hN, q⟩ := h
  try simp only [cxK, r_lam, r_dnew, r_err, r_base, r_serr, r_var, r_c, r_seq, r_next, r_break, r_cont, r_drop, r_ret, r_retN, r_if, r_ife, r_asg, r_name, r_op, r_un, r_nil, r_cons, r_lst2, r_tup2, r_lc, r_for, r_ilist, r_itup, r_istr, r_irng1, r_irng2, r_ienum, r_ienumS, wipe, r_cb, r_test, r_b, r_not, r_notV, r_andV, r_orV, r_isN, r_notN, r_m1, r_m0, r_fld, sFld, putF, r_par, r_sub, r_gtup, r_gnil, r_gcons, r_sl, r_nopart, r_part, r_bm, r_bm0, r_chain, r_call, r_callK, r_meth, r_prop, r_make, r_and, r_or, andT_t, andT_f, orT_t, orT_f, ifK_t, ifK_f, ifE_t, ifE_f, andK_t, andK_f, orK_t, orK_f, L2.start, List.map_cons, List.map_nil, List.length_cons, List.length_nil, List.replicate_succ, List.replicate_zero, List.cons_append, List.nil_append, List.getElem?_cons_succ, List.getElem?_cons_zero, List.set_cons_succ, List.set_cons_zero, Nat.reduceAdd, Nat.reduceSub, Nat.zero_add, decide_true, decide_false, Bool.not_true, Bool.not_false, if_true, if_false, rEq, rNe, scal_ii, scal_ss, scal_bb, scal_is, scal_si, scal_ns, scal_ni, scal_in, scal_sn, scal_nn, rI, rI0, rU, rIxLH, rIxTH, rLenH, rLenTH, rSetL, rCatN, rTupOfN, rLstOfN, rSlLN, rSlTN, CDiv, CPow, CMul, CDivW, rNeNil, rLenO, rSplitN, rRepN, r_replC, rMulS, r_methK, rRepTN, r_cmK, rCmpO, rInO, r_ixO, r_revL, rInSelf, rCmpA, rBinO, Bool.false_xor, Bool.true_xor, r_starT, r_starL, r_cm, r_cval, selK_t, selK_f, rAppend, rIsK, reduceCtorEq, upd_same, at0, at1, at2, at3, at4, at5, at6, at7, at8, at9, at10, at11, at12, at13, ix3_0, ix3_1, ix3_2, V.int.injEq, V.bl.injEq, V.str.injEq, V.ref.injEq, Option.some.injEq, HO.lst.injEq, HO.tup.injEq, HO.ins.injEq, List.cons.injEq, and_true, true_and, exists_eq_left, exists_eq_left', exists_and_left, exists_eq', exists_eq, and_assoc, N_law_spelled]
  refine ⟨fits (by decide), fun p H1 n1 => ?_⟩
  have ht1 := n1.old ht
  have he : ([] : List V) = ([] : List Str).map V.str := rfl
  have hp1 := n1.at_
  rw [he] at hp1
  refine neD_strL ht1 hp1 hN.ok (fun _ h => nomatch h) ?_
  try simp only [cxK, r_lam, r_dnew, r_err, r_base, r_serr, r_var, r_c, r_seq, r_next, r_break, r_cont, r_drop, r_ret, r_retN, r_if, r_ife, r_asg, r_name, r_op, r_un, r_nil, r_cons, r_lst2, r_tup2, r_lc, r_for, r_ilist, r_itup, r_istr, r_irng1, r_irng2, r_ienum, r_ienumS, wipe, r_cb, r_test, r_b, r_not, r_notV, r_andV, r_orV, r_isN, r_notN, r_m1, r_m0, r_fld, sFld, putF, r_par, r_sub, r_gtup, r_gnil, r_gcons, r_sl, r_nopart, r_part, r_bm, r_bm0, r_chain, r_call, r_callK, r_meth, r_prop, r_make, r_and, r_or, andT_t, andT_f, orT_t, orT_f, ifK_t, ifK_f, ifE_t, ifE_f, andK_t, andK_f, orK_t, orK_f, L2.start, List.map_cons, List.map_nil, List.length_cons, List.length_nil, List.replicate_succ, List.replicate_zero, List.cons_append, List.nil_append, List.getElem?_cons_succ, List.getElem?_cons_zero, List.set_cons_succ, List.set_cons_zero, Nat.reduceAdd, Nat.reduceSub, Nat.zero_add, decide_true, decide_false, Bool.not_true, Bool.not_false, if_true, if_false, rEq, rNe, scal_ii, scal_ss, scal_bb, scal_is, scal_si, scal_ns, scal_ni, scal_in, scal_sn, scal_nn, rI, rI0, rU, rIxLH, rIxTH, rLenH, rLenTH, rSetL, rCatN, rTupOfN, rLstOfN, rSlLN, rSlTN, CDiv, CPow, CMul, CDivW, rNeNil, rLenO, rSplitN, rRepN, r_replC, rMulS, r_methK, rRepTN, r_cmK, rCmpO, rInO, r_ixO, r_revL, rInSelf, rCmpA, rBinO, Bool.false_xor, Bool.true_xor, r_starT, r_starL, r_cm, r_cval, selK_t, selK_f, rAppend, rIsK, reduceCtorEq, upd_same, at0, at1, at2, at3, at4, at5, at6, at7, at8, at9, at10, at11, at12, at13, ix3_0, ix3_1, ix3_2, V.int.injEq, V.bl.injEq, V.str.injEq, V.ref.injEq, Option.some.injEq, HO.lst.injEq, HO.tup.injEq, HO.ins.injEq, List.cons.injEq, and_true, true_and, exists_eq_left, exists_eq_left', exists_and_left, exists_eq', exists_eq, and_assoc, N_law_spelled]
  by_cases hn : ns = []
  · subst hn
    try simp only [cxK, r_lam, r_dnew, r_err, r_base, r_serr, r_var, r_c, r_seq, r_next, r_break, r_cont, r_drop, r_ret, r_retN, r_if, r_ife, r_asg, r_name, r_op, r_un, r_nil, r_cons, r_lst2, r_tup2, r_lc, r_for, r_ilist, r_itup, r_istr, r_irng1, r_irng2, r_ienum, r_ienumS, wipe, r_cb, r_test, r_b, r_not, r_notV, r_andV, r_orV, r_isN, r_notN, r_m1, r_m0, r_fld, sFld, putF, r_par, r_sub, r_gtup, r_gnil, r_gcons, r_sl, r_nopart, r_part, r_bm, r_bm0, r_chain, r_call, r_callK, r_meth, r_prop, r_make, r_and, r_or, andT_t, andT_f, orT_t, orT_f, ifK_t, ifK_f, ifE_t, ifE_f, andK_t, andK_f, orK_t, orK_f, L2.start, List.map_cons, List.map_nil, List.length_cons, List.length_nil, List.replicate_succ, List.replicate_zero, List.cons_append, List.nil_append, List.getElem?_cons_succ, List.getElem?_cons_zero, List.set_cons_succ, List.set_cons_zero, Nat.reduceAdd, Nat.reduceSub, Nat.zero_add, decide_true, decide_false, Bool.not_true, Bool.not_false, if_true, if_false, rEq, rNe, scal_ii, scal_ss, scal_bb, scal_is, scal_si, scal_ns, scal_ni, scal_in, scal_sn, scal_nn, rI, rI0, rU, rIxLH, rIxTH, rLenH, rLenTH, rSetL, rCatN, rTupOfN, rLstOfN, rSlLN, rSlTN, CDiv, CPow, CMul, CDivW, rNeNil, rLenO, rSplitN, rRepN, r_replC, rMulS, r_methK, rRepTN, r_cmK, rCmpO, rInO, r_ixO, r_revL, rInSelf, rCmpA, rBinO, Bool.false_xor, Bool.true_xor, r_starT, r_starL, r_cm, r_cval, selK_t, selK_f, rAppend, rIsK, reduceCtorEq, upd_same, at0, at1, at2, at3, at4, at5, at6, at7, at8, at9, at10, at11, at12, at13, ix3_0, ix3_1, ix3_2, V.int.injEq, V.bl.injEq, V.str.injEq, V.ref.injEq, Option.some.injEq, HO.lst.injEq, HO.tup.injEq, HO.ins.injEq, List.cons.injEq, and_true, true_and, exists_eq_left, exists_eq_left', exists_and_left, exists_eq', exists_eq, and_assoc, N_law_spelled]
    exact q H1 n1.same
  · try simp only [cxK, r_lam, r_dnew, r_err, r_base, r_serr, r_var, r_c, r_seq, r_next, r_break, r_cont, r_drop, r_ret, r_retN, r_if, r_ife, r_asg, r_name, r_op, r_un, r_nil, r_cons, r_lst2, r_tup2, r_lc, r_for, r_ilist, r_itup, r_istr, r_irng1, r_irng2, r_ienum, r_ienumS, wipe, r_cb, r_test, r_b, r_not, r_notV, r_andV, r_orV, r_isN, r_notN, r_m1, r_m0, r_fld, sFld, putF, r_par, r_sub, r_gtup, r_gnil, r_gcons, r_sl, r_nopart, r_part, r_bm, r_bm0, r_chain, r_call, r_callK, r_meth, r_prop, r_make, r_and, r_or, andT_t, andT_f, orT_t, orT_f, ifK_t, ifK_f, ifE_t, ifE_f, andK_t, andK_f, orK_t, orK_f, L2.start, List.map_cons, List.map_nil, List.length_cons, List.length_nil, List.replicate_succ, List.replicate_zero, List.cons_append, List.nil_append, List.getElem?_cons_succ, List.getElem?_cons_zero, List.set_cons_succ, List.set_cons_zero, Nat.reduceAdd, Nat.reduceSub, Nat.zero_add, decide_true, decide_false, Bool.not_true, Bool.not_false, if_true, if_false, rEq, rNe, scal_ii, scal_ss, scal_bb, scal_is, scal_si, scal_ns, scal_ni, scal_in, scal_sn, scal_nn, rI, rI0, rU, rIxLH, rIxTH, rLenH, rLenTH, rSetL, rCatN, rTupOfN, rLstOfN, rSlLN, rSlTN, CDiv, CPow, CMul, CDivW, rNeNil, rLenO, rSplitN, rRepN, r_replC, rMulS, r_methK, rRepTN, r_cmK, rCmpO, rInO, r_ixO, r_revL, rInSelf, rCmpA, rBinO, Bool.false_xor, Bool.true_xor, r_starT, r_starL, r_cm, r_cval, selK_t, selK_f, rAppend, rIsK, reduceCtorEq, upd_same, at0, at1, at2, at3, at4, at5, at6, at7, at8, at9, at10, at11, at12, at13, ix3_0, ix3_1, ix3_2, V.int.injEq, V.bl.injEq, V.str.injEq, V.ref.injEq, Option.some.injEq, HO.lst.injEq, HO.tup.injEq, HO.ins.injEq, List.cons.injEq, and_true, true_and, exists_eq_left, exists_eq_left', exists_and_left, exists_eq', exists_eq, and_assoc, N_law_spelled, hn]
    refine ⟨⟨_, SqL.of ht1⟩, ?_⟩
    refine lcK_mapL ht1 (by have := hN.1; simp; omega) (fun v => match v with | .str n => .str ("/" ++ n) | v => v) ?_ ?_
    · intro i x H2 k hx sm hk
      rw [List.getElem?_map] at hx
      obtain ⟨z, hz, rfl⟩ := Option.map_eq_some_iff.mp hx
      have := (hN.2 z (List.mem_of_getElem? hz)).2
      try simp only [cxK, r_lam, r_dnew, r_err, r_base, r_serr, r_var, r_c, r_seq, r_next, r_break, r_cont, r_drop, r_ret, r_retN, r_if, r_ife, r_asg, r_name, r_op, r_un, r_nil, r_cons, r_lst2, r_tup2, r_lc, r_for, r_ilist, r_itup, r_istr, r_irng1, r_irng2, r_ienum, r_ienumS, wipe, r_cb, r_test, r_b, r_not, r_notV, r_andV, r_orV, r_isN, r_notN, r_m1, r_m0, r_fld, sFld, putF, r_par, r_sub, r_gtup, r_gnil, r_gcons, r_sl, r_nopart, r_part, r_bm, r_bm0, r_chain, r_call, r_callK, r_meth, r_prop, r_make, r_and, r_or, andT_t, andT_f, orT_t, orT_f, ifK_t, ifK_f, ifE_t, ifE_f, andK_t, andK_f, orK_t, orK_f, L2.start, List.map_cons, List.map_nil, List.length_cons, List.length_nil, List.replicate_succ, List.replicate_zero, List.cons_append, List.nil_append, List.getElem?_cons_succ, List.getElem?_cons_zero, List.set_cons_succ, List.set_cons_zero, Nat.reduceAdd, Nat.reduceSub, Nat.zero_add, decide_true, decide_false, Bool.not_true, Bool.not_false, if_true, if_false, rEq, rNe, scal_ii, scal_ss, scal_bb, scal_is, scal_si, scal_ns, scal_ni, scal_in, scal_sn, scal_nn, rI, rI0, rU, rIxLH, rIxTH, rLenH, rLenTH, rSetL, rCatN, rTupOfN, rLstOfN, rSlLN, rSlTN, CDiv, CPow, CMul, CDivW, rNeNil, rLenO, rSplitN, rRepN, r_replC, rMulS, r_methK, rRepTN, r_cmK, rCmpO, rInO, r_ixO, r_revL, rInSelf, rCmpA, rBinO, Bool.false_xor, Bool.true_xor, r_starT, r_starL, r_cm, r_cval, selK_t, selK_f, rAppend, rIsK, reduceCtorEq, upd_same, at0, at1, at2, at3, at4, at5, at6, at7, at8, at9, at10, at11, at12, at13, ix3_0, ix3_1, ix3_2, V.int.injEq, V.bl.injEq, V.str.injEq, V.ref.injEq, Option.some.injEq, HO.lst.injEq, HO.tup.injEq, HO.ins.injEq, List.cons.injEq, and_true, true_and, exists_eq_left, exists_eq_left', exists_and_left, exists_eq', exists_eq, and_assoc, N_law_spelled]
      refine ⟨fits ?_, hk H2 same_refl⟩
      have e : (PySem.Str.ofString "/").length = 1 := by decide
      omega
    · intro D H2 sm nD hD
      refine ⟨D, rfl, ns.map fun n => (PySem.Str.ofString "/") ++ n, Or.inl (SqL.of (by rw [hD, List.map_map, List.map_map] <;> rfl)), glue_fits hN, ?_⟩
      have z := q H2 (same_trans n1.same sm)
      unfold textOf at z
      rw [if_neg hn] at z
      exact z

end

section
variable {gd : Bool} {P : Program} {w : World} {K : PySem.W.Frag} {mg : Str → Option Value} {base : Heap}

/-- == of two paths -/
def spEqP (K : PySem.W.Frag) : Sp := fun vs H Q _ => ∃ (p r : Addr) (ns ms : List Str), vs = [.ref p, .ref r] ∧ IsPath K H p ns ∧ IsPath K H r ms ∧ (∀ x ∈ ns, isNm x = true) ∧ (∀ x ∈ ms, isNm x = true) ∧ Q (.bl (decide (ns = ms))) H
theorem ok_Path_eq (T : Tx fa fn K mg) : Fn gd P w K mg base 1 (aM "Path" "__eq__" K) [] (spEqP K) := by
  obtain ⟨fd, F⟩ := F_Path_eq T
  refine fn_all F sc_Path_eq (fun vs H Q E h => ?_) (b_Path_eq F) (fun cdv A outer s H vs Q E hr h => ⟨_, (pss_one (ps_ret (pe_and (pe_callB call_isi (by rfl) (T.free (T.c.fact 9 (f := fFree "isinstance") rfl)) (by decide +kernel) (pa_cons (pv 1) (pa_cons (pe_glob (v := .ref (ga _ "Path")) rfl (T.glo (T.c.fact 34 (f := fGlo "Path") rfl)) rfl) pa_nil))) (pe_one (pe_cmpR (op_eqD hr.r.units) (pe_fld (pv 0) rfl) (pe_fld (pv 1) rfl) (nomark _)))))), ?_⟩)
  · first | (obtain ⟨_, e, _⟩ := h; subst e; rfl) | (obtain ⟨_, _, e, _⟩ := h; subst e; rfl) | (obtain ⟨_, _, _, e, _⟩ := h; subst e; rfl) | (obtain ⟨_, _, _, _, e, _⟩ := h; subst e; rfl) | (obtain ⟨_, _, _, _, _, e, _⟩ := h; subst e; rfl) | (obtain ⟨_, _, _, _, _, _, e, _⟩ := h; subst e; rfl) | (obtain ⟨_, _, _, _, _, _, _, e, _⟩ := h; subst e; rfl) | (obtain ⟨_, _, _, _, _, _, _, _, e, _⟩ := h; subst e; rfl) | (obtain ⟨_, _, _, _, _, _, _, _, _, e, _⟩ := h; subst e; rfl) | (obtain ⟨_, _, _, _, _, _, _, _, _, _, e, _⟩ := h; subst e; rfl) | (obtain ⟨_, _, _, _, _, _, _, _, _, _, _, e, _⟩ := h; subst e; rfl)
  obtain ⟨p, r, ns, ms, rfl, ⟨dx, t, hp1, hp2⟩, ⟨dy, u, hr1, hr2⟩, hN, hM, q⟩ := h
  try simp only [cxK, r_lam, r_dnew, r_err, r_base, r_serr, r_var, r_c, r_seq, r_next, r_break, r_cont, r_drop, r_ret, r_retN, r_if, r_ife, r_asg, r_name, r_op, r_un, r_nil, r_cons, r_lst2, r_tup2, r_lc, r_for, r_ilist, r_itup, r_istr, r_irng1, r_irng2, r_ienum, r_ienumS, wipe, r_cb, r_test, r_b, r_not, r_notV, r_andV, r_orV, r_isN, r_notN, r_m1, r_m0, r_fld, sFld, putF, r_par, r_sub, r_gtup, r_gnil, r_gcons, r_sl, r_nopart, r_part, r_bm, r_bm0, r_chain, r_call, r_callK, r_meth, r_prop, r_make, r_and, r_or, andT_t, andT_f, orT_t, orT_f, ifK_t, ifK_f, ifE_t, ifE_f, andK_t, andK_f, orK_t, orK_f, L2.start, List.map_cons, List.map_nil, List.length_cons, List.length_nil, List.replicate_succ, List.replicate_zero, List.cons_append, List.nil_append, List.getElem?_cons_succ, List.getElem?_cons_zero, List.set_cons_succ, List.set_cons_zero, Nat.reduceAdd, Nat.reduceSub, Nat.zero_add, decide_true, decide_false, Bool.not_true, Bool.not_false, if_true, if_false, rEq, rNe, scal_ii, scal_ss, scal_bb, scal_is, scal_si, scal_ns, scal_ni, scal_in, scal_sn, scal_nn, rI, rI0, rU, rIxLH, rIxTH, rLenH, rLenTH, rSetL, rCatN, rTupOfN, rLstOfN, rSlLN, rSlTN, CDiv, CPow, CMul, CDivW, rNeNil, rLenO, rSplitN, rRepN, r_replC, rMulS, r_methK, rRepTN, r_cmK, rCmpO, rInO, r_ixO, r_revL, rInSelf, rCmpA, rBinO, Bool.false_xor, Bool.true_xor, r_starT, r_starL, r_cm, r_cval, selK_t, selK_f, rAppend, rIsK, reduceCtorEq, upd_same, at0, at1, at2, at3, at4, at5, at6, at7, at8, at9, at10, at11, at12, at13, ix3_0, ix3_1, ix3_2, V.int.injEq, V.bl.injEq, V.str.injEq, V.ref.injEq, Option.some.injEq, HO.lst.injEq, HO.tup.injEq, HO.ins.injEq, List.cons.injEq, and_true, true_and, exists_eq_left, exists_eq_left', exists_and_left, exists_eq', exists_eq, and_assoc, N_Path_eq]
  refine isi_own ((ins_ok (cls_ok (T.c.fact 14 (f := fCls "Path") rfl)) (T.c.fact 35 (f := fIns "Path") rfl)) hr1) (kit_ok (T.c.fact 36 (f := fKit (fun K => .ref (ga K "Path")) (fun K => .ref (ga K "Path")) true) rfl)) ?_
  try simp only [cxK, r_lam, r_dnew, r_err, r_base, r_serr, r_var, r_c, r_seq, r_next, r_break, r_cont, r_drop, r_ret, r_retN, r_if, r_ife, r_asg, r_name, r_op, r_un, r_nil, r_cons, r_lst2, r_tup2, r_lc, r_for, r_ilist, r_itup, r_istr, r_irng1, r_irng2, r_ienum, r_ienumS, wipe, r_cb, r_test, r_b, r_not, r_notV, r_andV, r_orV, r_isN, r_notN, r_m1, r_m0, r_fld, sFld, putF, r_par, r_sub, r_gtup, r_gnil, r_gcons, r_sl, r_nopart, r_part, r_bm, r_bm0, r_chain, r_call, r_callK, r_meth, r_prop, r_make, r_and, r_or, andT_t, andT_f, orT_t, orT_f, ifK_t, ifK_f, ifE_t, ifE_f, andK_t, andK_f, orK_t, orK_f, L2.start, List.map_cons, List.map_nil, List.length_cons, List.length_nil, List.replicate_succ, List.replicate_zero, List.cons_append, List.nil_append, List.getElem?_cons_succ, List.getElem?_cons_zero, List.set_cons_succ, List.set_cons_zero, Nat.reduceAdd, Nat.reduceSub, Nat.zero_add, decide_true, decide_false, Bool.not_true, Bool.not_false, if_true, if_false, rEq, rNe, scal_ii, scal_ss, scal_bb, scal_is, scal_si, scal_ns, scal_ni, scal_in, scal_sn, scal_nn, rI, rI0, rU, rIxLH, rIxTH, rLenH, rLenTH, rSetL, rCatN, rTupOfN, rLstOfN, rSlLN, rSlTN, CDiv, CPow, CMul, CDivW, rNeNil, rLenO, rSplitN, rRepN, r_replC, rMulS, r_methK, rRepTN, r_cmK, rCmpO, rInO, r_ixO, r_revL, rInSelf, rCmpA, rBinO, Bool.false_xor, Bool.true_xor, r_starT, r_starL, r_cm, r_cval, selK_t, selK_f, rAppend, rIsK, reduceCtorEq, upd_same, at0, at1, at2, at3, at4, at5, at6, at7, at8, at9, at10, at11, at12, at13, ix3_0, ix3_1, ix3_2, V.int.injEq, V.bl.injEq, V.str.injEq, V.ref.injEq, Option.some.injEq, HO.lst.injEq, HO.tup.injEq, HO.ins.injEq, List.cons.injEq, and_true, true_and, exists_eq_left, exists_eq_left', exists_and_left, exists_eq', exists_eq, and_assoc, N_Path_eq, hp1, hr1]
  refine ⟨(cls_ok (T.c.fact 14 (f := fCls "Path") rfl)), (noat_ok (T.c.fact 15 (f := fNo "Path" "names") rfl)), _, rfl, (cls_ok (T.c.fact 14 (f := fCls "Path") rfl)), (noat_ok (T.c.fact 15 (f := fNo "Path" "names") rfl)), _, rfl, ?_⟩
  exact eqD_strT hp2 hr2 (fun x hx => (isNm_fits (hN x hx)).2.1) (fun x hx => (isNm_fits (hM x hx)).2.1) q

end

section
variable {gd : Bool} {P : Program} {w : World} {K : PySem.W.Frag} {mg : Str → Option Value} {base : Heap}

/-- v as an integer -/
def NoInt (H : Hp) (v : V) : Prop := v = .non ∨ (∃ b, v = .bl b) ∨ (∃ z, v = .str z) ∨ ∃ a xs, v = .ref a ∧ (H a = some (.tup xs) ∨ H a = some (.lst xs) ∨ ∃ kvs, H a = some (.dK kvs))
theorem NoInt.ty {K : PySem.W.Frag} {H : Hp} {v : V} (h : NoInt H v) : ∃ (t : String) (r s : Bool), TyOf K H v (.type t) ∧ kitB t "int" = some r ∧ kitB t "bool" = some s ∧ (r = false ∨ s = true) := by
  rcases h with rfl | ⟨b, rfl⟩ | ⟨z, rfl⟩ | ⟨a, xs, rfl, h | h | ⟨kvs, h⟩⟩
  · exact ⟨_, false, false, .non, by decide +kernel, by decide +kernel, .inl rfl⟩
  · exact ⟨_, true, true, .bl b, by decide +kernel, by decide +kernel, .inr rfl⟩
  · exact ⟨_, false, false, .str z, by decide +kernel, by decide +kernel, .inl rfl⟩
  · exact ⟨_, false, false, .tup h, by decide +kernel, by decide +kernel, .inl rfl⟩
  · exact ⟨_, false, false, .lst h, by decide +kernel, by decide +kernel, .inl rfl⟩
  · exact ⟨_, false, false, .dK h, by decide +kernel, by decide +kernel, .inl rfl⟩
def IntV (H : Hp) (v : V) (r : Option Int) : Prop := (∃ i, v = .int i ∧ r = some i) ∨ (NoInt H v ∧ r = none)
def inB (r : Option Int) (lo hi : Int) : Bool := match r with
  | some i => decide (lo ≤ i) && decide (i ≤ hi)
  | none => false
theorem inB_some {i lo hi : Int} : inB (some i) lo hi = (decide (lo ≤ i) && decide (i ≤ hi)) := rfl
def spIsInt : Sp := fun vs H Q _ => ∃ (v : V) (r : Option Int) (lo hi : Int), vs = [v, .int lo, .int hi] ∧ IntV H v r ∧ Q (.bl (inB r lo hi)) H
theorem ok_is_integer (T : Tx fa fn K mg) : Fn gd P w K mg base 1 (aG "is_integer" K) [] spIsInt := by
  obtain ⟨fd, F⟩ := F_is_integer T
  refine fn_all F sc_is_integer (fun vs H Q E h => ?_) (b_is_integer F) (fun cdv A outer s H vs Q E hr h => ⟨_, (pss_one (ps_ret (pe_and (pe_callB call_isi (by rfl) (T.free (T.c.fact 9 (f := fFree "isinstance") rfl)) (by decide +kernel) (pa_cons (pv 0) (pa_cons (pe_bltn (v := .ty "int") (by rfl) (T.free (T.c.fact 38 (f := fFree "int") rfl)) (by decide +kernel) rfl) pa_nil))) (pe_and (pe_not (pe_callB call_isi (by rfl) (T.free (T.c.fact 9 (f := fFree "isinstance") rfl)) (by decide +kernel) (pa_cons (pv 0) (pa_cons (pe_bltn (v := .ty "bool") (by rfl) (T.free (T.c.fact 37 (f := fFree "bool") rfl)) (by decide +kernel) rfl) pa_nil)))) (pe_one (pe_chain op_le op_le (pv 1) (pv 0) (pv 2))))))), ?_⟩)
  · first | (obtain ⟨_, e, _⟩ := h; subst e; rfl) | (obtain ⟨_, _, e, _⟩ := h; subst e; rfl) | (obtain ⟨_, _, _, e, _⟩ := h; subst e; rfl) | (obtain ⟨_, _, _, _, e, _⟩ := h; subst e; rfl) | (obtain ⟨_, _, _, _, _, e, _⟩ := h; subst e; rfl) | (obtain ⟨_, _, _, _, _, _, e, _⟩ := h; subst e; rfl) | (obtain ⟨_, _, _, _, _, _, _, e, _⟩ := h; subst e; rfl) | (obtain ⟨_, _, _, _, _, _, _, _, e, _⟩ := h; subst e; rfl) | (obtain ⟨_, _, _, _, _, _, _, _, _, e, _⟩ := h; subst e; rfl) | (obtain ⟨_, _, _, _, _, _, _, _, _, _, e, _⟩ := h; subst e; rfl) | (obtain ⟨_, _, _, _, _, _, _, _, _, _, _, e, _⟩ := h; subst e; rfl)
  obtain ⟨v, r, lo, hi, rfl, hv, q⟩ := h
  rcases hv with ⟨i, rfl, rfl⟩ | ⟨hn, rfl⟩
  · try simp only [cxK, r_lam, r_dnew, r_err, r_base, r_serr, r_var, r_c, r_seq, r_next, r_break, r_cont, r_drop, r_ret, r_retN, r_if, r_ife, r_asg, r_name, r_op, r_un, r_nil, r_cons, r_lst2, r_tup2, r_lc, r_for, r_ilist, r_itup, r_istr, r_irng1, r_irng2, r_ienum, r_ienumS, wipe, r_cb, r_test, r_b, r_not, r_notV, r_andV, r_orV, r_isN, r_notN, r_m1, r_m0, r_fld, sFld, putF, r_par, r_sub, r_gtup, r_gnil, r_gcons, r_sl, r_nopart, r_part, r_bm, r_bm0, r_chain, r_call, r_callK, r_meth, r_prop, r_make, r_and, r_or, andT_t, andT_f, orT_t, orT_f, ifK_t, ifK_f, ifE_t, ifE_f, andK_t, andK_f, orK_t, orK_f, L2.start, List.map_cons, List.map_nil, List.length_cons, List.length_nil, List.replicate_succ, List.replicate_zero, List.cons_append, List.nil_append, List.getElem?_cons_succ, List.getElem?_cons_zero, List.set_cons_succ, List.set_cons_zero, Nat.reduceAdd, Nat.reduceSub, Nat.zero_add, decide_true, decide_false, Bool.not_true, Bool.not_false, if_true, if_false, rEq, rNe, scal_ii, scal_ss, scal_bb, scal_is, scal_si, scal_ns, scal_ni, scal_in, scal_sn, scal_nn, rI, rI0, rU, rIxLH, rIxTH, rLenH, rLenTH, rSetL, rCatN, rTupOfN, rLstOfN, rSlLN, rSlTN, CDiv, CPow, CMul, CDivW, rNeNil, rLenO, rSplitN, rRepN, r_replC, rMulS, r_methK, rRepTN, r_cmK, rCmpO, rInO, r_ixO, r_revL, rInSelf, rCmpA, rBinO, Bool.false_xor, Bool.true_xor, r_starT, r_starL, r_cm, r_cval, selK_t, selK_f, rAppend, rIsK, reduceCtorEq, upd_same, at0, at1, at2, at3, at4, at5, at6, at7, at8, at9, at10, at11, at12, at13, ix3_0, ix3_1, ix3_2, V.int.injEq, V.bl.injEq, V.str.injEq, V.ref.injEq, Option.some.injEq, HO.lst.injEq, HO.tup.injEq, HO.ins.injEq, List.cons.injEq, and_true, true_and, exists_eq_left, exists_eq_left', exists_and_left, exists_eq', exists_eq, and_assoc, N_is_integer]
    refine isi_ty (r := true) (.int i) (by decide +kernel) ?_
    try simp only [cxK, r_lam, r_dnew, r_err, r_base, r_serr, r_var, r_c, r_seq, r_next, r_break, r_cont, r_drop, r_ret, r_retN, r_if, r_ife, r_asg, r_name, r_op, r_un, r_nil, r_cons, r_lst2, r_tup2, r_lc, r_for, r_ilist, r_itup, r_istr, r_irng1, r_irng2, r_ienum, r_ienumS, wipe, r_cb, r_test, r_b, r_not, r_notV, r_andV, r_orV, r_isN, r_notN, r_m1, r_m0, r_fld, sFld, putF, r_par, r_sub, r_gtup, r_gnil, r_gcons, r_sl, r_nopart, r_part, r_bm, r_bm0, r_chain, r_call, r_callK, r_meth, r_prop, r_make, r_and, r_or, andT_t, andT_f, orT_t, orT_f, ifK_t, ifK_f, ifE_t, ifE_f, andK_t, andK_f, orK_t, orK_f, L2.start, List.map_cons, List.map_nil, List.length_cons, List.length_nil, List.replicate_succ, List.replicate_zero, List.cons_append, List.nil_append, List.getElem?_cons_succ, List.getElem?_cons_zero, List.set_cons_succ, List.set_cons_zero, Nat.reduceAdd, Nat.reduceSub, Nat.zero_add, decide_true, decide_false, Bool.not_true, Bool.not_false, if_true, if_false, rEq, rNe, scal_ii, scal_ss, scal_bb, scal_is, scal_si, scal_ns, scal_ni, scal_in, scal_sn, scal_nn, rI, rI0, rU, rIxLH, rIxTH, rLenH, rLenTH, rSetL, rCatN, rTupOfN, rLstOfN, rSlLN, rSlTN, CDiv, CPow, CMul, CDivW, rNeNil, rLenO, rSplitN, rRepN, r_replC, rMulS, r_methK, rRepTN, r_cmK, rCmpO, rInO, r_ixO, r_revL, rInSelf, rCmpA, rBinO, Bool.false_xor, Bool.true_xor, r_starT, r_starL, r_cm, r_cval, selK_t, selK_f, rAppend, rIsK, reduceCtorEq, upd_same, at0, at1, at2, at3, at4, at5, at6, at7, at8, at9, at10, at11, at12, at13, ix3_0, ix3_1, ix3_2, V.int.injEq, V.bl.injEq, V.str.injEq, V.ref.injEq, Option.some.injEq, HO.lst.injEq, HO.tup.injEq, HO.ins.injEq, List.cons.injEq, and_true, true_and, exists_eq_left, exists_eq_left', exists_and_left, exists_eq', exists_eq, and_assoc, N_is_integer]
    refine isi_ty (r := false) (.int i) (by decide +kernel) ?_
    try simp only [cxK, r_lam, r_dnew, r_err, r_base, r_serr, r_var, r_c, r_seq, r_next, r_break, r_cont, r_drop, r_ret, r_retN, r_if, r_ife, r_asg, r_name, r_op, r_un, r_nil, r_cons, r_lst2, r_tup2, r_lc, r_for, r_ilist, r_itup, r_istr, r_irng1, r_irng2, r_ienum, r_ienumS, wipe, r_cb, r_test, r_b, r_not, r_notV, r_andV, r_orV, r_isN, r_notN, r_m1, r_m0, r_fld, sFld, putF, r_par, r_sub, r_gtup, r_gnil, r_gcons, r_sl, r_nopart, r_part, r_bm, r_bm0, r_chain, r_call, r_callK, r_meth, r_prop, r_make, r_and, r_or, andT_t, andT_f, orT_t, orT_f, ifK_t, ifK_f, ifE_t, ifE_f, andK_t, andK_f, orK_t, orK_f, L2.start, List.map_cons, List.map_nil, List.length_cons, List.length_nil, List.replicate_succ, List.replicate_zero, List.cons_append, List.nil_append, List.getElem?_cons_succ, List.getElem?_cons_zero, List.set_cons_succ, List.set_cons_zero, Nat.reduceAdd, Nat.reduceSub, Nat.zero_add, decide_true, decide_false, Bool.not_true, Bool.not_false, if_true, if_false, rEq, rNe, scal_ii, scal_ss, scal_bb, scal_is, scal_si, scal_ns, scal_ni, scal_in, scal_sn, scal_nn, rI, rI0, rU, rIxLH, rIxTH, rLenH, rLenTH, rSetL, rCatN, rTupOfN, rLstOfN, rSlLN, rSlTN, CDiv, CPow, CMul, CDivW, rNeNil, rLenO, rSplitN, rRepN, r_replC, rMulS, r_methK, rRepTN, r_cmK, rCmpO, rInO, r_ixO, r_revL, rInSelf, rCmpA, rBinO, Bool.false_xor, Bool.true_xor, r_starT, r_starL, r_cm, r_cval, selK_t, selK_f, rAppend, rIsK, reduceCtorEq, upd_same, at0, at1, at2, at3, at4, at5, at6, at7, at8, at9, at10, at11, at12, at13, ix3_0, ix3_1, ix3_2, V.int.injEq, V.bl.injEq, V.str.injEq, V.ref.injEq, Option.some.injEq, HO.lst.injEq, HO.tup.injEq, HO.ins.injEq, List.cons.injEq, and_true, true_and, exists_eq_left, exists_eq_left', exists_and_left, exists_eq', exists_eq, and_assoc, N_is_integer]
    rw [inB_some] at q
    by_cases h1 : lo ≤ i
    · rw [decide_eq_true h1, Bool.true_and] at q
      try simp only [cxK, r_lam, r_dnew, r_err, r_base, r_serr, r_var, r_c, r_seq, r_next, r_break, r_cont, r_drop, r_ret, r_retN, r_if, r_ife, r_asg, r_name, r_op, r_un, r_nil, r_cons, r_lst2, r_tup2, r_lc, r_for, r_ilist, r_itup, r_istr, r_irng1, r_irng2, r_ienum, r_ienumS, wipe, r_cb, r_test, r_b, r_not, r_notV, r_andV, r_orV, r_isN, r_notN, r_m1, r_m0, r_fld, sFld, putF, r_par, r_sub, r_gtup, r_gnil, r_gcons, r_sl, r_nopart, r_part, r_bm, r_bm0, r_chain, r_call, r_callK, r_meth, r_prop, r_make, r_and, r_or, andT_t, andT_f, orT_t, orT_f, ifK_t, ifK_f, ifE_t, ifE_f, andK_t, andK_f, orK_t, orK_f, L2.start, List.map_cons, List.map_nil, List.length_cons, List.length_nil, List.replicate_succ, List.replicate_zero, List.cons_append, List.nil_append, List.getElem?_cons_succ, List.getElem?_cons_zero, List.set_cons_succ, List.set_cons_zero, Nat.reduceAdd, Nat.reduceSub, Nat.zero_add, decide_true, decide_false, Bool.not_true, Bool.not_false, if_true, if_false, rEq, rNe, scal_ii, scal_ss, scal_bb, scal_is, scal_si, scal_ns, scal_ni, scal_in, scal_sn, scal_nn, rI, rI0, rU, rIxLH, rIxTH, rLenH, rLenTH, rSetL, rCatN, rTupOfN, rLstOfN, rSlLN, rSlTN, CDiv, CPow, CMul, CDivW, rNeNil, rLenO, rSplitN, rRepN, r_replC, rMulS, r_methK, rRepTN, r_cmK, rCmpO, rInO, r_ixO, r_revL, rInSelf, rCmpA, rBinO, Bool.false_xor, Bool.true_xor, r_starT, r_starL, r_cm, r_cval, selK_t, selK_f, rAppend, rIsK, reduceCtorEq, upd_same, at0, at1, at2, at3, at4, at5, at6, at7, at8, at9, at10, at11, at12, at13, ix3_0, ix3_1, ix3_2, V.int.injEq, V.bl.injEq, V.str.injEq, V.ref.injEq, Option.some.injEq, HO.lst.injEq, HO.tup.injEq, HO.ins.injEq, List.cons.injEq, and_true, true_and, exists_eq_left, exists_eq_left', exists_and_left, exists_eq', exists_eq, and_assoc, N_is_integer, h1]
      exact q
    · rw [decide_eq_false h1, Bool.false_and] at q
      try simp only [cxK, r_lam, r_dnew, r_err, r_base, r_serr, r_var, r_c, r_seq, r_next, r_break, r_cont, r_drop, r_ret, r_retN, r_if, r_ife, r_asg, r_name, r_op, r_un, r_nil, r_cons, r_lst2, r_tup2, r_lc, r_for, r_ilist, r_itup, r_istr, r_irng1, r_irng2, r_ienum, r_ienumS, wipe, r_cb, r_test, r_b, r_not, r_notV, r_andV, r_orV, r_isN, r_notN, r_m1, r_m0, r_fld, sFld, putF, r_par, r_sub, r_gtup, r_gnil, r_gcons, r_sl, r_nopart, r_part, r_bm, r_bm0, r_chain, r_call, r_callK, r_meth, r_prop, r_make, r_and, r_or, andT_t, andT_f, orT_t, orT_f, ifK_t, ifK_f, ifE_t, ifE_f, andK_t, andK_f, orK_t, orK_f, L2.start, List.map_cons, List.map_nil, List.length_cons, List.length_nil, List.replicate_succ, List.replicate_zero, List.cons_append, List.nil_append, List.getElem?_cons_succ, List.getElem?_cons_zero, List.set_cons_succ, List.set_cons_zero, Nat.reduceAdd, Nat.reduceSub, Nat.zero_add, decide_true, decide_false, Bool.not_true, Bool.not_false, if_true, if_false, rEq, rNe, scal_ii, scal_ss, scal_bb, scal_is, scal_si, scal_ns, scal_ni, scal_in, scal_sn, scal_nn, rI, rI0, rU, rIxLH, rIxTH, rLenH, rLenTH, rSetL, rCatN, rTupOfN, rLstOfN, rSlLN, rSlTN, CDiv, CPow, CMul, CDivW, rNeNil, rLenO, rSplitN, rRepN, r_replC, rMulS, r_methK, rRepTN, r_cmK, rCmpO, rInO, r_ixO, r_revL, rInSelf, rCmpA, rBinO, Bool.false_xor, Bool.true_xor, r_starT, r_starL, r_cm, r_cval, selK_t, selK_f, rAppend, rIsK, reduceCtorEq, upd_same, at0, at1, at2, at3, at4, at5, at6, at7, at8, at9, at10, at11, at12, at13, ix3_0, ix3_1, ix3_2, V.int.injEq, V.bl.injEq, V.str.injEq, V.ref.injEq, Option.some.injEq, HO.lst.injEq, HO.tup.injEq, HO.ins.injEq, List.cons.injEq, and_true, true_and, exists_eq_left, exists_eq_left', exists_and_left, exists_eq', exists_eq, and_assoc, N_is_integer, h1]
      exact q
  · try simp only [cxK, r_lam, r_dnew, r_err, r_base, r_serr, r_var, r_c, r_seq, r_next, r_break, r_cont, r_drop, r_ret, r_retN, r_if, r_ife, r_asg, r_name, r_op, r_un, r_nil, r_cons, r_lst2, r_tup2, r_lc, r_for, r_ilist, r_itup, r_istr, r_irng1, r_irng2, r_ienum, r_ienumS, wipe, r_cb, r_test, r_b, r_not, r_notV, r_andV, r_orV, r_isN, r_notN, r_m1, r_m0, r_fld, sFld, putF, r_par, r_sub, r_gtup, r_gnil, r_gcons, r_sl, r_nopart, r_part, r_bm, r_bm0, r_chain, r_call, r_callK, r_meth, r_prop, r_make, r_and, r_or, andT_t, andT_f, orT_t, orT_f, ifK_t, ifK_f, ifE_t, ifE_f, andK_t, andK_f, orK_t, orK_f, L2.start, List.map_cons, List.map_nil, List.length_cons, List.length_nil, List.replicate_succ, List.replicate_zero, List.cons_append, List.nil_append, List.getElem?_cons_succ, List.getElem?_cons_zero, List.set_cons_succ, List.set_cons_zero, Nat.reduceAdd, Nat.reduceSub, Nat.zero_add, decide_true, decide_false, Bool.not_true, Bool.not_false, if_true, if_false, rEq, rNe, scal_ii, scal_ss, scal_bb, scal_is, scal_si, scal_ns, scal_ni, scal_in, scal_sn, scal_nn, rI, rI0, rU, rIxLH, rIxTH, rLenH, rLenTH, rSetL, rCatN, rTupOfN, rLstOfN, rSlLN, rSlTN, CDiv, CPow, CMul, CDivW, rNeNil, rLenO, rSplitN, rRepN, r_replC, rMulS, r_methK, rRepTN, r_cmK, rCmpO, rInO, r_ixO, r_revL, rInSelf, rCmpA, rBinO, Bool.false_xor, Bool.true_xor, r_starT, r_starL, r_cm, r_cval, selK_t, selK_f, rAppend, rIsK, reduceCtorEq, upd_same, at0, at1, at2, at3, at4, at5, at6, at7, at8, at9, at10, at11, at12, at13, ix3_0, ix3_1, ix3_2, V.int.injEq, V.bl.injEq, V.str.injEq, V.ref.injEq, Option.some.injEq, HO.lst.injEq, HO.tup.injEq, HO.ins.injEq, List.cons.injEq, and_true, true_and, exists_eq_left, exists_eq_left', exists_and_left, exists_eq', exists_eq, and_assoc, N_is_integer]
    obtain ⟨t, r, s', ty, k1, k2, k3⟩ := hn.ty (K := K)
    refine isi_ty (r := r) ty k1 ?_
    cases r with
    | false =>
      try simp only [cxK, r_lam, r_dnew, r_err, r_base, r_serr, r_var, r_c, r_seq, r_next, r_break, r_cont, r_drop, r_ret, r_retN, r_if, r_ife, r_asg, r_name, r_op, r_un, r_nil, r_cons, r_lst2, r_tup2, r_lc, r_for, r_ilist, r_itup, r_istr, r_irng1, r_irng2, r_ienum, r_ienumS, wipe, r_cb, r_test, r_b, r_not, r_notV, r_andV, r_orV, r_isN, r_notN, r_m1, r_m0, r_fld, sFld, putF, r_par, r_sub, r_gtup, r_gnil, r_gcons, r_sl, r_nopart, r_part, r_bm, r_bm0, r_chain, r_call, r_callK, r_meth, r_prop, r_make, r_and, r_or, andT_t, andT_f, orT_t, orT_f, ifK_t, ifK_f, ifE_t, ifE_f, andK_t, andK_f, orK_t, orK_f, L2.start, List.map_cons, List.map_nil, List.length_cons, List.length_nil, List.replicate_succ, List.replicate_zero, List.cons_append, List.nil_append, List.getElem?_cons_succ, List.getElem?_cons_zero, List.set_cons_succ, List.set_cons_zero, Nat.reduceAdd, Nat.reduceSub, Nat.zero_add, decide_true, decide_false, Bool.not_true, Bool.not_false, if_true, if_false, rEq, rNe, scal_ii, scal_ss, scal_bb, scal_is, scal_si, scal_ns, scal_ni, scal_in, scal_sn, scal_nn, rI, rI0, rU, rIxLH, rIxTH, rLenH, rLenTH, rSetL, rCatN, rTupOfN, rLstOfN, rSlLN, rSlTN, CDiv, CPow, CMul, CDivW, rNeNil, rLenO, rSplitN, rRepN, r_replC, rMulS, r_methK, rRepTN, r_cmK, rCmpO, rInO, r_ixO, r_revL, rInSelf, rCmpA, rBinO, Bool.false_xor, Bool.true_xor, r_starT, r_starL, r_cm, r_cval, selK_t, selK_f, rAppend, rIsK, reduceCtorEq, upd_same, at0, at1, at2, at3, at4, at5, at6, at7, at8, at9, at10, at11, at12, at13, ix3_0, ix3_1, ix3_2, V.int.injEq, V.bl.injEq, V.str.injEq, V.ref.injEq, Option.some.injEq, HO.lst.injEq, HO.tup.injEq, HO.ins.injEq, List.cons.injEq, and_true, true_and, exists_eq_left, exists_eq_left', exists_and_left, exists_eq', exists_eq, and_assoc, N_is_integer]
      exact q
    | true =>
      try simp only [cxK, r_lam, r_dnew, r_err, r_base, r_serr, r_var, r_c, r_seq, r_next, r_break, r_cont, r_drop, r_ret, r_retN, r_if, r_ife, r_asg, r_name, r_op, r_un, r_nil, r_cons, r_lst2, r_tup2, r_lc, r_for, r_ilist, r_itup, r_istr, r_irng1, r_irng2, r_ienum, r_ienumS, wipe, r_cb, r_test, r_b, r_not, r_notV, r_andV, r_orV, r_isN, r_notN, r_m1, r_m0, r_fld, sFld, putF, r_par, r_sub, r_gtup, r_gnil, r_gcons, r_sl, r_nopart, r_part, r_bm, r_bm0, r_chain, r_call, r_callK, r_meth, r_prop, r_make, r_and, r_or, andT_t, andT_f, orT_t, orT_f, ifK_t, ifK_f, ifE_t, ifE_f, andK_t, andK_f, orK_t, orK_f, L2.start, List.map_cons, List.map_nil, List.length_cons, List.length_nil, List.replicate_succ, List.replicate_zero, List.cons_append, List.nil_append, List.getElem?_cons_succ, List.getElem?_cons_zero, List.set_cons_succ, List.set_cons_zero, Nat.reduceAdd, Nat.reduceSub, Nat.zero_add, decide_true, decide_false, Bool.not_true, Bool.not_false, if_true, if_false, rEq, rNe, scal_ii, scal_ss, scal_bb, scal_is, scal_si, scal_ns, scal_ni, scal_in, scal_sn, scal_nn, rI, rI0, rU, rIxLH, rIxTH, rLenH, rLenTH, rSetL, rCatN, rTupOfN, rLstOfN, rSlLN, rSlTN, CDiv, CPow, CMul, CDivW, rNeNil, rLenO, rSplitN, rRepN, r_replC, rMulS, r_methK, rRepTN, r_cmK, rCmpO, rInO, r_ixO, r_revL, rInSelf, rCmpA, rBinO, Bool.false_xor, Bool.true_xor, r_starT, r_starL, r_cm, r_cval, selK_t, selK_f, rAppend, rIsK, reduceCtorEq, upd_same, at0, at1, at2, at3, at4, at5, at6, at7, at8, at9, at10, at11, at12, at13, ix3_0, ix3_1, ix3_2, V.int.injEq, V.bl.injEq, V.str.injEq, V.ref.injEq, Option.some.injEq, HO.lst.injEq, HO.tup.injEq, HO.ins.injEq, List.cons.injEq, and_true, true_and, exists_eq_left, exists_eq_left', exists_and_left, exists_eq', exists_eq, and_assoc, N_is_integer]
      refine isi_ty (r := s') ty k2 ?_
      rcases k3 with k3 | rfl
      · cases k3
      · try simp only [cxK, r_lam, r_dnew, r_err, r_base, r_serr, r_var, r_c, r_seq, r_next, r_break, r_cont, r_drop, r_ret, r_retN, r_if, r_ife, r_asg, r_name, r_op, r_un, r_nil, r_cons, r_lst2, r_tup2, r_lc, r_for, r_ilist, r_itup, r_istr, r_irng1, r_irng2, r_ienum, r_ienumS, wipe, r_cb, r_test, r_b, r_not, r_notV, r_andV, r_orV, r_isN, r_notN, r_m1, r_m0, r_fld, sFld, putF, r_par, r_sub, r_gtup, r_gnil, r_gcons, r_sl, r_nopart, r_part, r_bm, r_bm0, r_chain, r_call, r_callK, r_meth, r_prop, r_make, r_and, r_or, andT_t, andT_f, orT_t, orT_f, ifK_t, ifK_f, ifE_t, ifE_f, andK_t, andK_f, orK_t, orK_f, L2.start, List.map_cons, List.map_nil, List.length_cons, List.length_nil, List.replicate_succ, List.replicate_zero, List.cons_append, List.nil_append, List.getElem?_cons_succ, List.getElem?_cons_zero, List.set_cons_succ, List.set_cons_zero, Nat.reduceAdd, Nat.reduceSub, Nat.zero_add, decide_true, decide_false, Bool.not_true, Bool.not_false, if_true, if_false, rEq, rNe, scal_ii, scal_ss, scal_bb, scal_is, scal_si, scal_ns, scal_ni, scal_in, scal_sn, scal_nn, rI, rI0, rU, rIxLH, rIxTH, rLenH, rLenTH, rSetL, rCatN, rTupOfN, rLstOfN, rSlLN, rSlTN, CDiv, CPow, CMul, CDivW, rNeNil, rLenO, rSplitN, rRepN, r_replC, rMulS, r_methK, rRepTN, r_cmK, rCmpO, rInO, r_ixO, r_revL, rInSelf, rCmpA, rBinO, Bool.false_xor, Bool.true_xor, r_starT, r_starL, r_cm, r_cval, selK_t, selK_f, rAppend, rIsK, reduceCtorEq, upd_same, at0, at1, at2, at3, at4, at5, at6, at7, at8, at9, at10, at11, at12, at13, ix3_0, ix3_1, ix3_2, V.int.injEq, V.bl.injEq, V.str.injEq, V.ref.injEq, Option.some.injEq, HO.lst.injEq, HO.tup.injEq, HO.ins.injEq, List.cons.injEq, and_true, true_and, exists_eq_left, exists_eq_left', exists_and_left, exists_eq', exists_eq, and_assoc, N_is_integer]
        exact q
def spGet (K : PySem.W.Frag) : Sp := fun vs H Q E => ∃ (p : Addr) (ns : List Str) (v : V) (r : Option Int), vs = [.ref p, v] ∧ IsPath K H p ns ∧ ns.length ≤ 1000 ∧ IntV H v r ∧ (∀ (m : Nat) (z : Str), r = some (m : Int) → ns[m]? = some z → Q (.str z) H) ∧
  ∀ d fs H', (∀ i, r = some i → ¬ (0 ≤ i ∧ i < ns.length)) → Same H H' → H' d = some (.xd fs) → E (.ref (ga K "BadNumber")) (some d) H'
theorem ok_Path_getitem (T : Tx fa fn K mg) : Fn gd P w K mg base 3 (aM "Path" "__getitem__" K) [] (spGet K) := by
  obtain ⟨fd, F⟩ := F_Path_getitem T
  refine fn_all F sc_Path_getitem (fun vs H Q E h => ?_) (b_Path_getitem F) (fun cdv A outer s H vs Q E hr h => ⟨_, (pss_cons (ps_if (pt_not (pt_val (pe_fn (ok_is_integer T) (hr.mono (by decide)) rfl (g_is_integer T) (k_is_integer T) passD (pa_cons (pv 1) (pa_cons pe_int (pa_cons (pe_op op_sub (pe_callB call_len_th (by rfl) (T.free (T.c.fact 0 (f := fFree "len") rfl)) (by decide +kernel) (pa_cons (pe_fld (pv 0) rfl) pa_nil)) pe_int) pa_nil))))))
 (pss_one (ps_rerr rfl (takes_of rfl rfl rfl rfl) (ox_BadNumber T) (ok_BadNumber_init T) (hr.mono (by decide)) rfl (T.glo (T.c.fact 32 (f := fGlo "BadNumber") rfl)) passL (pa_cons pe_str pa_nil)))
 pss_nil)
 (pss_one (ps_ret (pe_ix ix_th (pe_fld (pv 0) rfl) (pv 1) (fun _ _ => rfl))))), ?_⟩)
  · first | (obtain ⟨_, e, _⟩ := h; subst e; rfl) | (obtain ⟨_, _, e, _⟩ := h; subst e; rfl) | (obtain ⟨_, _, _, e, _⟩ := h; subst e; rfl) | (obtain ⟨_, _, _, _, e, _⟩ := h; subst e; rfl) | (obtain ⟨_, _, _, _, _, e, _⟩ := h; subst e; rfl) | (obtain ⟨_, _, _, _, _, _, e, _⟩ := h; subst e; rfl) | (obtain ⟨_, _, _, _, _, _, _, e, _⟩ := h; subst e; rfl) | (obtain ⟨_, _, _, _, _, _, _, _, e, _⟩ := h; subst e; rfl) | (obtain ⟨_, _, _, _, _, _, _, _, _, e, _⟩ := h; subst e; rfl) | (obtain ⟨_, _, _, _, _, _, _, _, _, _, e, _⟩ := h; subst e; rfl) | (obtain ⟨_, _, _, _, _, _, _, _, _, _, _, e, _⟩ := h; subst e; rfl)
  obtain ⟨p, ns, v, r, rfl, ⟨dx, t, hp, ht⟩, hl, hv, q, q1⟩ := h
  try simp only [cxK, r_lam, r_dnew, r_err, r_base, r_serr, r_var, r_c, r_seq, r_next, r_break, r_cont, r_drop, r_ret, r_retN, r_if, r_ife, r_asg, r_name, r_op, r_un, r_nil, r_cons, r_lst2, r_tup2, r_lc, r_for, r_ilist, r_itup, r_istr, r_irng1, r_irng2, r_ienum, r_ienumS, wipe, r_cb, r_test, r_b, r_not, r_notV, r_andV, r_orV, r_isN, r_notN, r_m1, r_m0, r_fld, sFld, putF, r_par, r_sub, r_gtup, r_gnil, r_gcons, r_sl, r_nopart, r_part, r_bm, r_bm0, r_chain, r_call, r_callK, r_meth, r_prop, r_make, r_and, r_or, andT_t, andT_f, orT_t, orT_f, ifK_t, ifK_f, ifE_t, ifE_f, andK_t, andK_f, orK_t, orK_f, L2.start, List.map_cons, List.map_nil, List.length_cons, List.length_nil, List.replicate_succ, List.replicate_zero, List.cons_append, List.nil_append, List.getElem?_cons_succ, List.getElem?_cons_zero, List.set_cons_succ, List.set_cons_zero, Nat.reduceAdd, Nat.reduceSub, Nat.zero_add, decide_true, decide_false, Bool.not_true, Bool.not_false, if_true, if_false, rEq, rNe, scal_ii, scal_ss, scal_bb, scal_is, scal_si, scal_ns, scal_ni, scal_in, scal_sn, scal_nn, rI, rI0, rU, rIxLH, rIxTH, rLenH, rLenTH, rSetL, rCatN, rTupOfN, rLstOfN, rSlLN, rSlTN, CDiv, CPow, CMul, CDivW, rNeNil, rLenO, rSplitN, rRepN, r_replC, rMulS, r_methK, rRepTN, r_cmK, rCmpO, rInO, r_ixO, r_revL, rInSelf, rCmpA, rBinO, Bool.false_xor, Bool.true_xor, r_starT, r_starL, r_cm, r_cval, selK_t, selK_f, rAppend, rIsK, reduceCtorEq, upd_same, at0, at1, at2, at3, at4, at5, at6, at7, at8, at9, at10, at11, at12, at13, ix3_0, ix3_1, ix3_2, V.int.injEq, V.bl.injEq, V.str.injEq, V.ref.injEq, Option.some.injEq, HO.lst.injEq, HO.tup.injEq, HO.ins.injEq, List.cons.injEq, and_true, true_and, exists_eq_left, exists_eq_left', exists_and_left, exists_eq', exists_eq, and_assoc, N_Path_getitem, hp]
  refine ⟨(cls_ok (T.c.fact 14 (f := fCls "Path") rfl)), (noat_ok (T.c.fact 15 (f := fNo "Path" "names") rfl)), _, rfl, ?_⟩
  try simp only [cxK, r_lam, r_dnew, r_err, r_base, r_serr, r_var, r_c, r_seq, r_next, r_break, r_cont, r_drop, r_ret, r_retN, r_if, r_ife, r_asg, r_name, r_op, r_un, r_nil, r_cons, r_lst2, r_tup2, r_lc, r_for, r_ilist, r_itup, r_istr, r_irng1, r_irng2, r_ienum, r_ienumS, wipe, r_cb, r_test, r_b, r_not, r_notV, r_andV, r_orV, r_isN, r_notN, r_m1, r_m0, r_fld, sFld, putF, r_par, r_sub, r_gtup, r_gnil, r_gcons, r_sl, r_nopart, r_part, r_bm, r_bm0, r_chain, r_call, r_callK, r_meth, r_prop, r_make, r_and, r_or, andT_t, andT_f, orT_t, orT_f, ifK_t, ifK_f, ifE_t, ifE_f, andK_t, andK_f, orK_t, orK_f, L2.start, List.map_cons, List.map_nil, List.length_cons, List.length_nil, List.replicate_succ, List.replicate_zero, List.cons_append, List.nil_append, List.getElem?_cons_succ, List.getElem?_cons_zero, List.set_cons_succ, List.set_cons_zero, Nat.reduceAdd, Nat.reduceSub, Nat.zero_add, decide_true, decide_false, Bool.not_true, Bool.not_false, if_true, if_false, rEq, rNe, scal_ii, scal_ss, scal_bb, scal_is, scal_si, scal_ns, scal_ni, scal_in, scal_sn, scal_nn, rI, rI0, rU, rIxLH, rIxTH, rLenH, rLenTH, rSetL, rCatN, rTupOfN, rLstOfN, rSlLN, rSlTN, CDiv, CPow, CMul, CDivW, rNeNil, rLenO, rSplitN, rRepN, r_replC, rMulS, r_methK, rRepTN, r_cmK, rCmpO, rInO, r_ixO, r_revL, rInSelf, rCmpA, rBinO, Bool.false_xor, Bool.true_xor, r_starT, r_starL, r_cm, r_cval, selK_t, selK_f, rAppend, rIsK, reduceCtorEq, upd_same, at0, at1, at2, at3, at4, at5, at6, at7, at8, at9, at10, at11, at12, at13, ix3_0, ix3_1, ix3_2, V.int.injEq, V.bl.injEq, V.str.injEq, V.ref.injEq, Option.some.injEq, HO.lst.injEq, HO.tup.injEq, HO.ins.injEq, List.cons.injEq, and_true, true_and, exists_eq_left, exists_eq_left', exists_and_left, exists_eq', exists_eq, and_assoc, N_Path_getitem, ht]
  refine ⟨v, r, 0, _, rfl, hv, ?_⟩
  cases hin : inB r 0 (((ns.map V.str).length : Int) - 1) with
  | false =>
    try simp only [cxK, r_lam, r_dnew, r_err, r_base, r_serr, r_var, r_c, r_seq, r_next, r_break, r_cont, r_drop, r_ret, r_retN, r_if, r_ife, r_asg, r_name, r_op, r_un, r_nil, r_cons, r_lst2, r_tup2, r_lc, r_for, r_ilist, r_itup, r_istr, r_irng1, r_irng2, r_ienum, r_ienumS, wipe, r_cb, r_test, r_b, r_not, r_notV, r_andV, r_orV, r_isN, r_notN, r_m1, r_m0, r_fld, sFld, putF, r_par, r_sub, r_gtup, r_gnil, r_gcons, r_sl, r_nopart, r_part, r_bm, r_bm0, r_chain, r_call, r_callK, r_meth, r_prop, r_make, r_and, r_or, andT_t, andT_f, orT_t, orT_f, ifK_t, ifK_f, ifE_t, ifE_f, andK_t, andK_f, orK_t, orK_f, L2.start, List.map_cons, List.map_nil, List.length_cons, List.length_nil, List.replicate_succ, List.replicate_zero, List.cons_append, List.nil_append, List.getElem?_cons_succ, List.getElem?_cons_zero, List.set_cons_succ, List.set_cons_zero, Nat.reduceAdd, Nat.reduceSub, Nat.zero_add, decide_true, decide_false, Bool.not_true, Bool.not_false, if_true, if_false, rEq, rNe, scal_ii, scal_ss, scal_bb, scal_is, scal_si, scal_ns, scal_ni, scal_in, scal_sn, scal_nn, rI, rI0, rU, rIxLH, rIxTH, rLenH, rLenTH, rSetL, rCatN, rTupOfN, rLstOfN, rSlLN, rSlTN, CDiv, CPow, CMul, CDivW, rNeNil, rLenO, rSplitN, rRepN, r_replC, rMulS, r_methK, rRepTN, r_cmK, rCmpO, rInO, r_ixO, r_revL, rInSelf, rCmpA, rBinO, Bool.false_xor, Bool.true_xor, r_starT, r_starL, r_cm, r_cval, selK_t, selK_f, rAppend, rIsK, reduceCtorEq, upd_same, at0, at1, at2, at3, at4, at5, at6, at7, at8, at9, at10, at11, at12, at13, ix3_0, ix3_1, ix3_2, V.int.injEq, V.bl.injEq, V.str.injEq, V.ref.injEq, Option.some.injEq, HO.lst.injEq, HO.tup.injEq, HO.ins.injEq, List.cons.injEq, and_true, true_and, exists_eq_left, exists_eq_left', exists_and_left, exists_eq', exists_eq, and_assoc, N_Path_getitem, hin]
    intro d H2 n2
    refine q1 d _ H2 (fun i e z => ?_) n2.same n2.at_
    subst e
    rw [inB_some, List.length_map, decide_eq_true z.1, decide_eq_true (by omega)] at hin
    cases hin
  | true =>
    try simp only [cxK, r_lam, r_dnew, r_err, r_base, r_serr, r_var, r_c, r_seq, r_next, r_break, r_cont, r_drop, r_ret, r_retN, r_if, r_ife, r_asg, r_name, r_op, r_un, r_nil, r_cons, r_lst2, r_tup2, r_lc, r_for, r_ilist, r_itup, r_istr, r_irng1, r_irng2, r_ienum, r_ienumS, wipe, r_cb, r_test, r_b, r_not, r_notV, r_andV, r_orV, r_isN, r_notN, r_m1, r_m0, r_fld, sFld, putF, r_par, r_sub, r_gtup, r_gnil, r_gcons, r_sl, r_nopart, r_part, r_bm, r_bm0, r_chain, r_call, r_callK, r_meth, r_prop, r_make, r_and, r_or, andT_t, andT_f, orT_t, orT_f, ifK_t, ifK_f, ifE_t, ifE_f, andK_t, andK_f, orK_t, orK_f, L2.start, List.map_cons, List.map_nil, List.length_cons, List.length_nil, List.replicate_succ, List.replicate_zero, List.cons_append, List.nil_append, List.getElem?_cons_succ, List.getElem?_cons_zero, List.set_cons_succ, List.set_cons_zero, Nat.reduceAdd, Nat.reduceSub, Nat.zero_add, decide_true, decide_false, Bool.not_true, Bool.not_false, if_true, if_false, rEq, rNe, scal_ii, scal_ss, scal_bb, scal_is, scal_si, scal_ns, scal_ni, scal_in, scal_sn, scal_nn, rI, rI0, rU, rIxLH, rIxTH, rLenH, rLenTH, rSetL, rCatN, rTupOfN, rLstOfN, rSlLN, rSlTN, CDiv, CPow, CMul, CDivW, rNeNil, rLenO, rSplitN, rRepN, r_replC, rMulS, r_methK, rRepTN, r_cmK, rCmpO, rInO, r_ixO, r_revL, rInSelf, rCmpA, rBinO, Bool.false_xor, Bool.true_xor, r_starT, r_starL, r_cm, r_cval, selK_t, selK_f, rAppend, rIsK, reduceCtorEq, upd_same, at0, at1, at2, at3, at4, at5, at6, at7, at8, at9, at10, at11, at12, at13, ix3_0, ix3_1, ix3_2, V.int.injEq, V.bl.injEq, V.str.injEq, V.ref.injEq, Option.some.injEq, HO.lst.injEq, HO.tup.injEq, HO.ins.injEq, List.cons.injEq, and_true, true_and, exists_eq_left, exists_eq_left', exists_and_left, exists_eq', exists_eq, and_assoc, N_Path_getitem, hin, hp]
    refine ⟨(cls_ok (T.c.fact 14 (f := fCls "Path") rfl)), (noat_ok (T.c.fact 15 (f := fNo "Path" "names") rfl)), _, rfl, ?_⟩
    rcases hv with ⟨i, rfl, rfl⟩ | ⟨_, rfl⟩
    · rw [inB_some, List.length_map, Bool.and_eq_true] at hin
      have h1 := of_decide_eq_true hin.1
      have h2 := of_decide_eq_true hin.2
      obtain ⟨m, rfl⟩ : ∃ m : Nat, i = (m : Int) := ⟨i.toNat, by omega⟩
      have hm : m < ns.length := by omega
      try simp only [cxK, r_lam, r_dnew, r_err, r_base, r_serr, r_var, r_c, r_seq, r_next, r_break, r_cont, r_drop, r_ret, r_retN, r_if, r_ife, r_asg, r_name, r_op, r_un, r_nil, r_cons, r_lst2, r_tup2, r_lc, r_for, r_ilist, r_itup, r_istr, r_irng1, r_irng2, r_ienum, r_ienumS, wipe, r_cb, r_test, r_b, r_not, r_notV, r_andV, r_orV, r_isN, r_notN, r_m1, r_m0, r_fld, sFld, putF, r_par, r_sub, r_gtup, r_gnil, r_gcons, r_sl, r_nopart, r_part, r_bm, r_bm0, r_chain, r_call, r_callK, r_meth, r_prop, r_make, r_and, r_or, andT_t, andT_f, orT_t, orT_f, ifK_t, ifK_f, ifE_t, ifE_f, andK_t, andK_f, orK_t, orK_f, L2.start, List.map_cons, List.map_nil, List.length_cons, List.length_nil, List.replicate_succ, List.replicate_zero, List.cons_append, List.nil_append, List.getElem?_cons_succ, List.getElem?_cons_zero, List.set_cons_succ, List.set_cons_zero, Nat.reduceAdd, Nat.reduceSub, Nat.zero_add, decide_true, decide_false, Bool.not_true, Bool.not_false, if_true, if_false, rEq, rNe, scal_ii, scal_ss, scal_bb, scal_is, scal_si, scal_ns, scal_ni, scal_in, scal_sn, scal_nn, rI, rI0, rU, rIxLH, rIxTH, rLenH, rLenTH, rSetL, rCatN, rTupOfN, rLstOfN, rSlLN, rSlTN, CDiv, CPow, CMul, CDivW, rNeNil, rLenO, rSplitN, rRepN, r_replC, rMulS, r_methK, rRepTN, r_cmK, rCmpO, rInO, r_ixO, r_revL, rInSelf, rCmpA, rBinO, Bool.false_xor, Bool.true_xor, r_starT, r_starL, r_cm, r_cval, selK_t, selK_f, rAppend, rIsK, reduceCtorEq, upd_same, at0, at1, at2, at3, at4, at5, at6, at7, at8, at9, at10, at11, at12, at13, ix3_0, ix3_1, ix3_2, V.int.injEq, V.bl.injEq, V.str.injEq, V.ref.injEq, Option.some.injEq, HO.lst.injEq, HO.tup.injEq, HO.ins.injEq, List.cons.injEq, and_true, true_and, exists_eq_left, exists_eq_left', exists_and_left, exists_eq', exists_eq, and_assoc, N_Path_getitem, ht]
      exact ⟨.str ns[m], atI_nat (by simp [hm]), q m ns[m] rfl (by simp [hm])⟩
    · cases hin
def spCont (K : PySem.W.Frag) : Sp := fun vs H Q _ => ∃ (p : Addr) (ns : List Str) (v : V) (b : Bool), vs = [.ref p, v] ∧ IsPath K H p ns ∧ NmV H v b ∧ ∀ H', Same H H' → (b = false → Q (.bl false) H') ∧ ∀ z, v = .str z → b = true → Q (.bl (decide (z ∈ ns))) H'
theorem inV_strs (z : Str) : ∀ ns : List Str, inV (V.str z) (ns.map V.str) = decide (z ∈ ns)
  | [] => by simp [inV]
  | n :: r => by
    have ih := inV_strs z r
    show ((n == z) || inV (V.str z) (r.map V.str)) = _
    rw [ih]
    by_cases h : z = n
    · subst h
      simp
    · rw [beq_eq_false_iff_ne.mpr fun e => h e.symm]
      simp [h]
theorem ok_Path_contains (T : Tx fa fn K mg) : Fn gd P w K mg base 2 (aM "Path" "__contains__" K) [] (spCont K) := by
  obtain ⟨fd, F⟩ := F_Path_contains T
  refine fn_all F sc_Path_contains (fun vs H Q E h => ?_) (b_Path_contains F) (fun cdv A outer s H vs Q E hr h => ⟨_, (pss_one (ps_ret (pe_and (pe_fn (ok_is_nameV T) (hr.mono (by decide)) rfl (g_is_name T) (k_is_name T) passD (pa_cons (pv 1) pa_nil)) (pe_one (pe_cmpR op_in_seq (pv 1) (pe_fld (pv 0) rfl) rfl))))), ?_⟩)
  · first | (obtain ⟨_, e, _⟩ := h; subst e; rfl) | (obtain ⟨_, _, e, _⟩ := h; subst e; rfl) | (obtain ⟨_, _, _, e, _⟩ := h; subst e; rfl) | (obtain ⟨_, _, _, _, e, _⟩ := h; subst e; rfl) | (obtain ⟨_, _, _, _, _, e, _⟩ := h; subst e; rfl) | (obtain ⟨_, _, _, _, _, _, e, _⟩ := h; subst e; rfl) | (obtain ⟨_, _, _, _, _, _, _, e, _⟩ := h; subst e; rfl) | (obtain ⟨_, _, _, _, _, _, _, _, e, _⟩ := h; subst e; rfl) | (obtain ⟨_, _, _, _, _, _, _, _, _, e, _⟩ := h; subst e; rfl) | (obtain ⟨_, _, _, _, _, _, _, _, _, _, e, _⟩ := h; subst e; rfl) | (obtain ⟨_, _, _, _, _, _, _, _, _, _, _, e, _⟩ := h; subst e; rfl)
  obtain ⟨p, ns, v, b, rfl, ⟨dx, t, hp, ht⟩, hv, q⟩ := h
  try simp only [cxK, r_lam, r_dnew, r_err, r_base, r_serr, r_var, r_c, r_seq, r_next, r_break, r_cont, r_drop, r_ret, r_retN, r_if, r_ife, r_asg, r_name, r_op, r_un, r_nil, r_cons, r_lst2, r_tup2, r_lc, r_for, r_ilist, r_itup, r_istr, r_irng1, r_irng2, r_ienum, r_ienumS, wipe, r_cb, r_test, r_b, r_not, r_notV, r_andV, r_orV, r_isN, r_notN, r_m1, r_m0, r_fld, sFld, putF, r_par, r_sub, r_gtup, r_gnil, r_gcons, r_sl, r_nopart, r_part, r_bm, r_bm0, r_chain, r_call, r_callK, r_meth, r_prop, r_make, r_and, r_or, andT_t, andT_f, orT_t, orT_f, ifK_t, ifK_f, ifE_t, ifE_f, andK_t, andK_f, orK_t, orK_f, L2.start, List.map_cons, List.map_nil, List.length_cons, List.length_nil, List.replicate_succ, List.replicate_zero, List.cons_append, List.nil_append, List.getElem?_cons_succ, List.getElem?_cons_zero, List.set_cons_succ, List.set_cons_zero, Nat.reduceAdd, Nat.reduceSub, Nat.zero_add, decide_true, decide_false, Bool.not_true, Bool.not_false, if_true, if_false, rEq, rNe, scal_ii, scal_ss, scal_bb, scal_is, scal_si, scal_ns, scal_ni, scal_in, scal_sn, scal_nn, rI, rI0, rU, rIxLH, rIxTH, rLenH, rLenTH, rSetL, rCatN, rTupOfN, rLstOfN, rSlLN, rSlTN, CDiv, CPow, CMul, CDivW, rNeNil, rLenO, rSplitN, rRepN, r_replC, rMulS, r_methK, rRepTN, r_cmK, rCmpO, rInO, r_ixO, r_revL, rInSelf, rCmpA, rBinO, Bool.false_xor, Bool.true_xor, r_starT, r_starL, r_cm, r_cval, selK_t, selK_f, rAppend, rIsK, reduceCtorEq, upd_same, at0, at1, at2, at3, at4, at5, at6, at7, at8, at9, at10, at11, at12, at13, ix3_0, ix3_1, ix3_2, V.int.injEq, V.bl.injEq, V.str.injEq, V.ref.injEq, Option.some.injEq, HO.lst.injEq, HO.tup.injEq, HO.ins.injEq, List.cons.injEq, and_true, true_and, exists_eq_left, exists_eq_left', exists_and_left, exists_eq', exists_eq, and_assoc, N_Path_contains]
  refine ⟨v, b, rfl, hv, fun H1 s1 => ?_⟩
  have hp1 := s1 _ _ hp
  have ht1 := s1 _ _ ht
  cases b with
  | false =>
    try simp only [cxK, r_lam, r_dnew, r_err, r_base, r_serr, r_var, r_c, r_seq, r_next, r_break, r_cont, r_drop, r_ret, r_retN, r_if, r_ife, r_asg, r_name, r_op, r_un, r_nil, r_cons, r_lst2, r_tup2, r_lc, r_for, r_ilist, r_itup, r_istr, r_irng1, r_irng2, r_ienum, r_ienumS, wipe, r_cb, r_test, r_b, r_not, r_notV, r_andV, r_orV, r_isN, r_notN, r_m1, r_m0, r_fld, sFld, putF, r_par, r_sub, r_gtup, r_gnil, r_gcons, r_sl, r_nopart, r_part, r_bm, r_bm0, r_chain, r_call, r_callK, r_meth, r_prop, r_make, r_and, r_or, andT_t, andT_f, orT_t, orT_f, ifK_t, ifK_f, ifE_t, ifE_f, andK_t, andK_f, orK_t, orK_f, L2.start, List.map_cons, List.map_nil, List.length_cons, List.length_nil, List.replicate_succ, List.replicate_zero, List.cons_append, List.nil_append, List.getElem?_cons_succ, List.getElem?_cons_zero, List.set_cons_succ, List.set_cons_zero, Nat.reduceAdd, Nat.reduceSub, Nat.zero_add, decide_true, decide_false, Bool.not_true, Bool.not_false, if_true, if_false, rEq, rNe, scal_ii, scal_ss, scal_bb, scal_is, scal_si, scal_ns, scal_ni, scal_in, scal_sn, scal_nn, rI, rI0, rU, rIxLH, rIxTH, rLenH, rLenTH, rSetL, rCatN, rTupOfN, rLstOfN, rSlLN, rSlTN, CDiv, CPow, CMul, CDivW, rNeNil, rLenO, rSplitN, rRepN, r_replC, rMulS, r_methK, rRepTN, r_cmK, rCmpO, rInO, r_ixO, r_revL, rInSelf, rCmpA, rBinO, Bool.false_xor, Bool.true_xor, r_starT, r_starL, r_cm, r_cval, selK_t, selK_f, rAppend, rIsK, reduceCtorEq, upd_same, at0, at1, at2, at3, at4, at5, at6, at7, at8, at9, at10, at11, at12, at13, ix3_0, ix3_1, ix3_2, V.int.injEq, V.bl.injEq, V.str.injEq, V.ref.injEq, Option.some.injEq, HO.lst.injEq, HO.tup.injEq, HO.ins.injEq, List.cons.injEq, and_true, true_and, exists_eq_left, exists_eq_left', exists_and_left, exists_eq', exists_eq, and_assoc, N_Path_contains]
    exact (q H1 s1).1 rfl
  | true =>
    try simp only [cxK, r_lam, r_dnew, r_err, r_base, r_serr, r_var, r_c, r_seq, r_next, r_break, r_cont, r_drop, r_ret, r_retN, r_if, r_ife, r_asg, r_name, r_op, r_un, r_nil, r_cons, r_lst2, r_tup2, r_lc, r_for, r_ilist, r_itup, r_istr, r_irng1, r_irng2, r_ienum, r_ienumS, wipe, r_cb, r_test, r_b, r_not, r_notV, r_andV, r_orV, r_isN, r_notN, r_m1, r_m0, r_fld, sFld, putF, r_par, r_sub, r_gtup, r_gnil, r_gcons, r_sl, r_nopart, r_part, r_bm, r_bm0, r_chain, r_call, r_callK, r_meth, r_prop, r_make, r_and, r_or, andT_t, andT_f, orT_t, orT_f, ifK_t, ifK_f, ifE_t, ifE_f, andK_t, andK_f, orK_t, orK_f, L2.start, List.map_cons, List.map_nil, List.length_cons, List.length_nil, List.replicate_succ, List.replicate_zero, List.cons_append, List.nil_append, List.getElem?_cons_succ, List.getElem?_cons_zero, List.set_cons_succ, List.set_cons_zero, Nat.reduceAdd, Nat.reduceSub, Nat.zero_add, decide_true, decide_false, Bool.not_true, Bool.not_false, if_true, if_false, rEq, rNe, scal_ii, scal_ss, scal_bb, scal_is, scal_si, scal_ns, scal_ni, scal_in, scal_sn, scal_nn, rI, rI0, rU, rIxLH, rIxTH, rLenH, rLenTH, rSetL, rCatN, rTupOfN, rLstOfN, rSlLN, rSlTN, CDiv, CPow, CMul, CDivW, rNeNil, rLenO, rSplitN, rRepN, r_replC, rMulS, r_methK, rRepTN, r_cmK, rCmpO, rInO, r_ixO, r_revL, rInSelf, rCmpA, rBinO, Bool.false_xor, Bool.true_xor, r_starT, r_starL, r_cm, r_cval, selK_t, selK_f, rAppend, rIsK, reduceCtorEq, upd_same, at0, at1, at2, at3, at4, at5, at6, at7, at8, at9, at10, at11, at12, at13, ix3_0, ix3_1, ix3_2, V.int.injEq, V.bl.injEq, V.str.injEq, V.ref.injEq, Option.some.injEq, HO.lst.injEq, HO.tup.injEq, HO.ins.injEq, List.cons.injEq, and_true, true_and, exists_eq_left, exists_eq_left', exists_and_left, exists_eq', exists_eq, and_assoc, N_Path_contains, hp1]
    refine ⟨(cls_ok (T.c.fact 14 (f := fCls "Path") rfl)), (noat_ok (T.c.fact 15 (f := fNo "Path" "names") rfl)), _, rfl, ?_⟩
    rcases hv with ⟨z, rfl, _, _⟩ | ⟨_, e⟩
    · refine ⟨t, _, rfl, .inr (SqT.of ht1), rfl, by simp [flatV], ?_⟩
      rw [if_neg Bool.false_ne_true, inV_strs]
      exact (q H1 s1).2 z rfl rfl
    · cases e
/-- path // v -/
def spFd (K : PySem.W.Frag) : Sp := fun vs H Q E => ∃ (p : Addr) (ns : List Str) (v : V) (b : Bool), vs = [.ref p, v] ∧ IsPath K H p ns ∧ ns.length ≤ 12 ∧ (∀ x ∈ ns, isNm x = true) ∧ NmV H v b ∧
  (∀ z p' H', v = .str z → b = true → ns.length < 12 → Same H H' → IsPath K H' p' (ns ++ [z]) → Q (.ref p') H') ∧ (∀ d fs H', b = false → Same H H' → H' d = some (.xd fs) → E (.ref (ga K "BadName")) (some d) H') ∧ ∀ d fs H', b = true → ns.length = 12 → Same H H' → H' d = some (.xd fs) → E (.ref (ga K "BadPath")) (some d) H'
theorem ok_Path_floordiv (T : Tx fa fn K mg) : Fn gd P w K mg base 5 (aM "Path" "__floordiv__" K) [] (spFd K) := by
  obtain ⟨fd, F⟩ := F_Path_floordiv T
  refine fn_all F sc_Path_floordiv (fun vs H Q E h => ?_) (b_Path_floordiv F) (fun cdv A outer s H vs Q E hr h => ⟨_, (pss_one (ps_ret (pe_mkSN (mkr_ok (T.c.fact 33 (f := fMkr "Path") rfl)) (ok_Path_initX T) (hr.mono (by decide)) rfl (T.glo (T.c.fact 34 (f := fGlo "Path") rfl)) passD (pa_starT (pe_fld (pv 0) rfl) (pa_cons (pv 1) pa_nil))))), ?_⟩)
  · first | (obtain ⟨_, e, _⟩ := h; subst e; rfl) | (obtain ⟨_, _, e, _⟩ := h; subst e; rfl) | (obtain ⟨_, _, _, e, _⟩ := h; subst e; rfl) | (obtain ⟨_, _, _, _, e, _⟩ := h; subst e; rfl) | (obtain ⟨_, _, _, _, _, e, _⟩ := h; subst e; rfl) | (obtain ⟨_, _, _, _, _, _, e, _⟩ := h; subst e; rfl) | (obtain ⟨_, _, _, _, _, _, _, e, _⟩ := h; subst e; rfl) | (obtain ⟨_, _, _, _, _, _, _, _, e, _⟩ := h; subst e; rfl) | (obtain ⟨_, _, _, _, _, _, _, _, _, e, _⟩ := h; subst e; rfl) | (obtain ⟨_, _, _, _, _, _, _, _, _, _, e, _⟩ := h; subst e; rfl) | (obtain ⟨_, _, _, _, _, _, _, _, _, _, _, e, _⟩ := h; subst e; rfl)
  obtain ⟨p, ns, v, b, rfl, ⟨dx, t, hp, ht⟩, hl, hN, hv, q, q0, q1⟩ := h
  try simp only [cxK, r_lam, r_dnew, r_err, r_base, r_serr, r_var, r_c, r_seq, r_next, r_break, r_cont, r_drop, r_ret, r_retN, r_if, r_ife, r_asg, r_name, r_op, r_un, r_nil, r_cons, r_lst2, r_tup2, r_lc, r_for, r_ilist, r_itup, r_istr, r_irng1, r_irng2, r_ienum, r_ienumS, wipe, r_cb, r_test, r_b, r_not, r_notV, r_andV, r_orV, r_isN, r_notN, r_m1, r_m0, r_fld, sFld, putF, r_par, r_sub, r_gtup, r_gnil, r_gcons, r_sl, r_nopart, r_part, r_bm, r_bm0, r_chain, r_call, r_callK, r_meth, r_prop, r_make, r_and, r_or, andT_t, andT_f, orT_t, orT_f, ifK_t, ifK_f, ifE_t, ifE_f, andK_t, andK_f, orK_t, orK_f, L2.start, List.map_cons, List.map_nil, List.length_cons, List.length_nil, List.replicate_succ, List.replicate_zero, List.cons_append, List.nil_append, List.getElem?_cons_succ, List.getElem?_cons_zero, List.set_cons_succ, List.set_cons_zero, Nat.reduceAdd, Nat.reduceSub, Nat.zero_add, decide_true, decide_false, Bool.not_true, Bool.not_false, if_true, if_false, rEq, rNe, scal_ii, scal_ss, scal_bb, scal_is, scal_si, scal_ns, scal_ni, scal_in, scal_sn, scal_nn, rI, rI0, rU, rIxLH, rIxTH, rLenH, rLenTH, rSetL, rCatN, rTupOfN, rLstOfN, rSlLN, rSlTN, CDiv, CPow, CMul, CDivW, rNeNil, rLenO, rSplitN, rRepN, r_replC, rMulS, r_methK, rRepTN, r_cmK, rCmpO, rInO, r_ixO, r_revL, rInSelf, rCmpA, rBinO, Bool.false_xor, Bool.true_xor, r_starT, r_starL, r_cm, r_cval, selK_t, selK_f, rAppend, rIsK, reduceCtorEq, upd_same, at0, at1, at2, at3, at4, at5, at6, at7, at8, at9, at10, at11, at12, at13, ix3_0, ix3_1, ix3_2, V.int.injEq, V.bl.injEq, V.str.injEq, V.ref.injEq, Option.some.injEq, HO.lst.injEq, HO.tup.injEq, HO.ins.injEq, List.cons.injEq, and_true, true_and, exists_eq_left, exists_eq_left', exists_and_left, exists_eq', exists_eq, and_assoc, N_Path_floordiv, hp]
  refine ⟨(cls_ok (T.c.fact 14 (f := fCls "Path") rfl)), (noat_ok (T.c.fact 15 (f := fNo "Path" "names") rfl)), _, rfl, ?_⟩
  try simp only [cxK, r_lam, r_dnew, r_err, r_base, r_serr, r_var, r_c, r_seq, r_next, r_break, r_cont, r_drop, r_ret, r_retN, r_if, r_ife, r_asg, r_name, r_op, r_un, r_nil, r_cons, r_lst2, r_tup2, r_lc, r_for, r_ilist, r_itup, r_istr, r_irng1, r_irng2, r_ienum, r_ienumS, wipe, r_cb, r_test, r_b, r_not, r_notV, r_andV, r_orV, r_isN, r_notN, r_m1, r_m0, r_fld, sFld, putF, r_par, r_sub, r_gtup, r_gnil, r_gcons, r_sl, r_nopart, r_part, r_bm, r_bm0, r_chain, r_call, r_callK, r_meth, r_prop, r_make, r_and, r_or, andT_t, andT_f, orT_t, orT_f, ifK_t, ifK_f, ifE_t, ifE_f, andK_t, andK_f, orK_t, orK_f, L2.start, List.map_cons, List.map_nil, List.length_cons, List.length_nil, List.replicate_succ, List.replicate_zero, List.cons_append, List.nil_append, List.getElem?_cons_succ, List.getElem?_cons_zero, List.set_cons_succ, List.set_cons_zero, Nat.reduceAdd, Nat.reduceSub, Nat.zero_add, decide_true, decide_false, Bool.not_true, Bool.not_false, if_true, if_false, rEq, rNe, scal_ii, scal_ss, scal_bb, scal_is, scal_si, scal_ns, scal_ni, scal_in, scal_sn, scal_nn, rI, rI0, rU, rIxLH, rIxTH, rLenH, rLenTH, rSetL, rCatN, rTupOfN, rLstOfN, rSlLN, rSlTN, CDiv, CPow, CMul, CDivW, rNeNil, rLenO, rSplitN, rRepN, r_replC, rMulS, r_methK, rRepTN, r_cmK, rCmpO, rInO, r_ixO, r_revL, rInSelf, rCmpA, rBinO, Bool.false_xor, Bool.true_xor, r_starT, r_starL, r_cm, r_cval, selK_t, selK_f, rAppend, rIsK, reduceCtorEq, upd_same, at0, at1, at2, at3, at4, at5, at6, at7, at8, at9, at10, at11, at12, at13, ix3_0, ix3_1, ix3_2, V.int.injEq, V.bl.injEq, V.str.injEq, V.ref.injEq, Option.some.injEq, HO.lst.injEq, HO.tup.injEq, HO.ins.injEq, List.cons.injEq, and_true, true_and, exists_eq_left, exists_eq_left', exists_and_left, exists_eq', exists_eq, and_assoc, N_Path_floordiv, ht]
  have hNV : ∀ (i : Nat) (x : V) (c : Bool), (ns.map V.str ++ [v])[i]? = some x → (List.replicate ns.length true ++ [b])[i]? = some c → NmV H x c := fun i x c h1 h2 => by
    by_cases hi : i < ns.length
    · rw [List.getElem?_append_left (by rw [List.length_map]; exact hi)] at h1
      rw [List.getElem?_append_left (by rw [List.length_replicate]; exact hi)] at h2
      exact nmVs hN i x c h1 h2
    · rw [List.getElem?_append_right (by rw [List.length_map]; omega), List.length_map] at h1
      rw [List.getElem?_append_right (by rw [List.length_replicate]; omega), List.length_replicate] at h2
      cases hz : i - ns.length with
      | zero =>
        rw [hz] at h1 h2
        cases h1
        cases h2
        exact hv
      | succ m =>
        rw [hz] at h1
        simp at h1
  have al : (List.replicate ns.length true ++ [b]).all id = b := by simp
  refine path_madeX (xs := ns.map V.str ++ [v]) (bs := List.replicate ns.length true ++ [b]) (by simp; omega) (by simp) hNV (fun ha h12 p' H' s hp' => ?_) fun C d fs H' s hd bad => ?_
  · rw [al] at ha
    subst ha
    rcases hv with ⟨z, rfl, _, _⟩ | ⟨_, e⟩
    · refine q z p' H' rfl rfl (by simp at h12; omega) s ?_
      obtain ⟨dx', t', e1, e2⟩ := hp'
      exact ⟨dx', t', e1, by rw [e2]; simp⟩
    · cases e
  · rcases bad with ⟨hf, rfl⟩ | ⟨ha, h, rfl⟩
    · rw [al] at hf
      exact q0 d fs H' hf s hd
    · rw [al] at ha
      exact q1 d fs H' ha (by simp at h; omega) s hd

end

section
variable {gd : Bool} {P : Program} {w : World} {K : PySem.W.Frag} {mg : Str → Option Value} {base : Heap}

theorem odd_bin (T : Tx fa fn K mg) {H : Hp} {v : V} {b : Bool} (h : NmV H v b) : ∃ (t : String) (fo ro rc : Option Value), TyX K H v (.type t) ∧ BinC K (ga K "Path") .FloorDiv (ma K (ga K "Path") "__floordiv__") t fo ro rc := by
  have mk : ∀ {t : String}, TyX K H v (.type t) → (∃ fo ro rc, BinC K (ga K "Path") .FloorDiv (ma K (ga K "Path") (PySem.dunder (Operator.info .FloorDiv).2)) t fo ro rc) → ∃ (t : String) (fo ro rc : Option Value), TyX K H v (.type t) ∧ BinC K (ga K "Path") .FloorDiv (ma K (ga K "Path") "__floordiv__") t fo ro rc :=
    fun {t} ty ⟨fo, ro, rc, c⟩ => ⟨t, fo, ro, rc, ty, c⟩
  rcases h with ⟨z, rfl, _⟩ | ⟨h, _⟩
  · exact mk (.base (.str z)) (bin_ok (T.c.fact 39 (f := fBin "Path" .FloorDiv "str") rfl))
  · rcases h with rfl | ⟨i, rfl⟩ | ⟨b, rfl⟩ | ⟨a, xs, rfl, h | h | ⟨kvs, h⟩⟩
    · exact mk (.base .non) (bin_ok (T.c.fact 40 (f := fBin "Path" .FloorDiv "NoneType") rfl))
    · exact mk (.base (.int i)) (bin_ok (T.c.fact 41 (f := fBin "Path" .FloorDiv "int") rfl))
    · exact mk (.base (.bl b)) (bin_ok (T.c.fact 42 (f := fBin "Path" .FloorDiv "bool") rfl))
    · exact mk (.base (.tup h)) (bin_ok (T.c.fact 43 (f := fBin "Path" .FloorDiv "tuple") rfl))
    · exact mk (.base (.lst h)) (bin_ok (T.c.fact 44 (f := fBin "Path" .FloorDiv "list") rfl))
    · exact mk (.base (.dK h)) (bin_ok (T.c.fact 45 (f := fBin "Path" .FloorDiv "dict") rfl))
theorem src_ne {H : Hp} {a l : Addr} {j : Int} {ns : List Str} (h : Src H a j) (k : H l = some (.lst (ns.map V.str))) : l ≠ a := fun e => by
  obtain ⟨c, d, z, _⟩ := h
  rw [e, z] at k
  cases ns with
  | nil => cases k
  | cons x r => cases k
theorem Odd.extN {H H' : Hp} {v : V} (h : Odd H v) (s : LamX.ExtN H H') : Odd H' v := by
  rcases h with h | h | h | ⟨a, xs, e, h | h | ⟨kvs, h⟩⟩
  · exact .inl h
  · exact .inr (.inl h)
  · exact .inr (.inr (.inl h))
  · exact .inr (.inr (.inr ⟨a, xs, e, .inl (s _ _ h nofun)⟩))
  · exact .inr (.inr (.inr ⟨a, xs, e, .inr (.inl (s _ _ h nofun))⟩))
  · exact .inr (.inr (.inr ⟨a, xs, e, .inr (.inr ⟨kvs, s _ _ h nofun⟩)⟩))
theorem NmV.extN {H H' : Hp} {v : V} {b : Bool} (h : NmV H v b) (s : LamX.ExtN H H') : NmV H' v b := by
  rcases h with h | ⟨h, e⟩
  · exact .inl h
  · exact .inr ⟨h.extN s, e⟩
def spLonger (K : PySem.W.Frag) : Sp := fun vs H Q _ => ∃ (a l : Addr) (ns : List Str) (j : Int), vs = [.ref a, .ref l] ∧ Src H a j ∧ j < 100000000000 ∧ H l = some (.lst (ns.map V.str)) ∧ ns.length ≤ 12 ∧ (∀ x ∈ ns, isNm x = true) ∧ LamX.Tabs (TL lm K) H ∧
  ∀ (j' : Int) (H' : Hp), j ≤ j' → j' ≤ j + 2 → OthN a H H' → LamX.Tabs (TL lm K) H' → Src H' a j' → Q (.bl true) H'
theorem ok_law_longer_right (T : Tx fa fn K mg) (B : Tb lm K mg base) (dn : (lm.map fun d => tabX K d).Nodup) : Fn true P w K mg base 10 (aG "_law_longer_right" K) [] (spLonger K) := by
  obtain ⟨fd, F⟩ := F_law_longer_right T
  refine fn_code F sc_law_longer_right (fun vs H Q E h => ?_) (b_law_longer_right F) (fun A outer s H vs Q E hr h => ⟨_, (pss_cons (ps_asg (pe_tup (pa_cons (pe_fn (ok_law_path_of_rowN T) (hr.mono (by decide)) rfl (g_law_path_of_row T) (k_law_path_of_row T) passD (pa_cons (pv 1) pa_nil)) (pa_cons (pe_fn (ok_law_good_name T) (hr.mono (by decide)) rfl (g_law_good_name T) (k_law_good_name T) passD (pa_cons (pv 0) pa_nil)) pa_nil))) (pg_tup (by rfl) (pgs_cons (pg_name (i := 3) sc_law_longer_right.nd rfl (Or.inr rfl)) (pgs_cons (pg_name (i := 4) sc_law_longer_right.nd rfl (Or.inr rfl)) pgs_nil))))
 (pss_cons (ps_set (i := 2) sc_law_longer_right.nd rfl (Or.inr rfl) (pe_fn (ok_law_bad_name T) (hr.mono (by decide)) rfl (g_law_bad_name T) (k_law_bad_name T) passD (pa_cons (pv 0) pa_nil)))
 (pss_cons (ps_if (pt_cmpR op_ne (pe_inv (k := 5) T B dn (d := d_law_longer_right) (by simp [lm]) rfl rfl rfl (hr.r.mono (by decide)) (LamX.lamS_by (sc := defScope s_law_longer_right) (by decide +kernel)) rfl (fun _ _ _ _ _ => rfl) (fun A outer s H E f c hr0 => (have hr := (Rm.mk hr0 (fun e => nomatch e) : Rm false _ _); (pe_op (op_binO (K' := K) (C := ga K "Path") rfl (ok_Path_floordiv (K := K) T) (hr.mono (by decide)) passLam) (pv 3) (pv 2))))) pe_str (nomark _))
 (pss_one (ps_ret pe_bl))
 pss_nil)
 (pss_cons (ps_if (pt_cmpR op_eq (pe_callB call_len_lh (by rfl) (T.free (T.c.fact 0 (f := fFree "len") rfl)) (by decide +kernel) (pa_cons (pv 1) pa_nil)) pe_int (nomark _))
 (pss_one (ps_ret (pe_cmpR op_eq (pe_inv (k := 5) T B dn (d := d_law_longer_right) (by simp [lm]) rfl rfl rfl (hr.r.mono (by decide)) (LamX.lamS_by (sc := defScope s_law_longer_right) (by decide +kernel)) rfl (fun _ _ _ _ _ => rfl) (fun A outer s H E f c hr0 => (have hr := (Rm.mk hr0 (fun e => nomatch e) : Rm false _ _); (pe_op (op_binO (K' := K) (C := ga K "Path") rfl (ok_Path_floordiv (K := K) T) (hr.mono (by decide)) passLam) (pv 3) (pv 4))))) pe_str (nomark _))))
 pss_nil)
 (pss_one (ps_ret (pe_and (pe_cmpR (op_eqD hr.r.units) (pe_fld (pe_op (op_binO (K' := K) (C := ga K "Path") rfl (ok_Path_floordiv (K := K) T) (hr.mono (by decide)) passD) (pv 3) (pv 4)) rfl) (pe_callTy call_tuple_n (by rfl) (T.free (T.c.fact 46 (f := fFree "tuple") rfl)) (by decide +kernel) (pa_cons (pe_op op_cat_n (pv 1) (pe_lst (pa_cons (pv 4) pa_nil))) pa_nil)) (nomark _)) (pe_one (pe_cmpR (op_eqD hr.r.units) (pe_fld (pv 3) rfl) (pe_callTy call_tuple_n (by rfl) (T.free (T.c.fact 46 (f := fFree "tuple") rfl)) (by decide +kernel) (pa_cons (pv 1) pa_nil)) (nomark _)))))))))), ?_⟩)
  · first | (obtain ⟨_, e, _⟩ := h; subst e; rfl) | (obtain ⟨_, _, e, _⟩ := h; subst e; rfl) | (obtain ⟨_, _, _, e, _⟩ := h; subst e; rfl) | (obtain ⟨_, _, _, _, e, _⟩ := h; subst e; rfl) | (obtain ⟨_, _, _, _, _, e, _⟩ := h; subst e; rfl) | (obtain ⟨_, _, _, _, _, _, e, _⟩ := h; subst e; rfl) | (obtain ⟨_, _, _, _, _, _, _, e, _⟩ := h; subst e; rfl) | (obtain ⟨_, _, _, _, _, _, _, _, e, _⟩ := h; subst e; rfl) | (obtain ⟨_, _, _, _, _, _, _, _, _, e, _⟩ := h; subst e; rfl) | (obtain ⟨_, _, _, _, _, _, _, _, _, _, e, _⟩ := h; subst e; rfl) | (obtain ⟨_, _, _, _, _, _, _, _, _, _, _, e, _⟩ := h; subst e; rfl)
  obtain ⟨a, l, ns, j, rfl, hs, j1, hl, n12, hN, ht, q⟩ := h
  have la := src_ne hs hl
  try simp only [cxK, r_lam, r_dnew, r_err, r_base, r_serr, r_var, r_c, r_seq, r_next, r_break, r_cont, r_drop, r_ret, r_retN, r_if, r_ife, r_asg, r_name, r_op, r_un, r_nil, r_cons, r_lst2, r_tup2, r_lc, r_for, r_ilist, r_itup, r_istr, r_irng1, r_irng2, r_ienum, r_ienumS, wipe, r_cb, r_test, r_b, r_not, r_notV, r_andV, r_orV, r_isN, r_notN, r_m1, r_m0, r_fld, sFld, putF, r_par, r_sub, r_gtup, r_gnil, r_gcons, r_sl, r_nopart, r_part, r_bm, r_bm0, r_chain, r_call, r_callK, r_meth, r_prop, r_make, r_and, r_or, andT_t, andT_f, orT_t, orT_f, ifK_t, ifK_f, ifE_t, ifE_f, andK_t, andK_f, orK_t, orK_f, L2.start, List.map_cons, List.map_nil, List.length_cons, List.length_nil, List.replicate_succ, List.replicate_zero, List.cons_append, List.nil_append, List.getElem?_cons_succ, List.getElem?_cons_zero, List.set_cons_succ, List.set_cons_zero, Nat.reduceAdd, Nat.reduceSub, Nat.zero_add, decide_true, decide_false, Bool.not_true, Bool.not_false, if_true, if_false, rEq, rNe, scal_ii, scal_ss, scal_bb, scal_is, scal_si, scal_ns, scal_ni, scal_in, scal_sn, scal_nn, rI, rI0, rU, rIxLH, rIxTH, rLenH, rLenTH, rSetL, rCatN, rTupOfN, rLstOfN, rSlLN, rSlTN, CDiv, CPow, CMul, CDivW, rNeNil, rLenO, rSplitN, rRepN, r_replC, rMulS, r_methK, rRepTN, r_cmK, rCmpO, rInO, r_ixO, r_revL, rInSelf, rCmpA, rBinO, Bool.false_xor, Bool.true_xor, r_starT, r_starL, r_cm, r_cval, selK_t, selK_f, rAppend, rIsK, reduceCtorEq, upd_same, at0, at1, at2, at3, at4, at5, at6, at7, at8, at9, at10, at11, at12, at13, ix3_0, ix3_1, ix3_2, V.int.injEq, V.bl.injEq, V.str.injEq, V.ref.injEq, Option.some.injEq, HO.lst.injEq, HO.tup.injEq, HO.ins.injEq, List.cons.injEq, and_true, true_and, exists_eq_left, exists_eq_left', exists_and_left, exists_eq', exists_eq, and_assoc, N_law_longer_right]
  refine ⟨l, ns, rfl, hl, n12, hN, fun p H1 s1 hp => ?_⟩
  try simp only [cxK, r_lam, r_dnew, r_err, r_base, r_serr, r_var, r_c, r_seq, r_next, r_break, r_cont, r_drop, r_ret, r_retN, r_if, r_ife, r_asg, r_name, r_op, r_un, r_nil, r_cons, r_lst2, r_tup2, r_lc, r_for, r_ilist, r_itup, r_istr, r_irng1, r_irng2, r_ienum, r_ienumS, wipe, r_cb, r_test, r_b, r_not, r_notV, r_andV, r_orV, r_isN, r_notN, r_m1, r_m0, r_fld, sFld, putF, r_par, r_sub, r_gtup, r_gnil, r_gcons, r_sl, r_nopart, r_part, r_bm, r_bm0, r_chain, r_call, r_callK, r_meth, r_prop, r_make, r_and, r_or, andT_t, andT_f, orT_t, orT_f, ifK_t, ifK_f, ifE_t, ifE_f, andK_t, andK_f, orK_t, orK_f, L2.start, List.map_cons, List.map_nil, List.length_cons, List.length_nil, List.replicate_succ, List.replicate_zero, List.cons_append, List.nil_append, List.getElem?_cons_succ, List.getElem?_cons_zero, List.set_cons_succ, List.set_cons_zero, Nat.reduceAdd, Nat.reduceSub, Nat.zero_add, decide_true, decide_false, Bool.not_true, Bool.not_false, if_true, if_false, rEq, rNe, scal_ii, scal_ss, scal_bb, scal_is, scal_si, scal_ns, scal_ni, scal_in, scal_sn, scal_nn, rI, rI0, rU, rIxLH, rIxTH, rLenH, rLenTH, rSetL, rCatN, rTupOfN, rLstOfN, rSlLN, rSlTN, CDiv, CPow, CMul, CDivW, rNeNil, rLenO, rSplitN, rRepN, r_replC, rMulS, r_methK, rRepTN, r_cmK, rCmpO, rInO, r_ixO, r_revL, rInSelf, rCmpA, rBinO, Bool.false_xor, Bool.true_xor, r_starT, r_starL, r_cm, r_cval, selK_t, selK_f, rAppend, rIsK, reduceCtorEq, upd_same, at0, at1, at2, at3, at4, at5, at6, at7, at8, at9, at10, at11, at12, at13, ix3_0, ix3_1, ix3_2, V.int.injEq, V.bl.injEq, V.str.injEq, V.ref.injEq, Option.some.injEq, HO.lst.injEq, HO.tup.injEq, HO.ins.injEq, List.cons.injEq, and_true, true_and, exists_eq_left, exists_eq_left', exists_and_left, exists_eq', exists_eq, and_assoc, N_law_longer_right]
  refine ⟨a, j, rfl, hs.same s1, by omega, fun z j2 H2 hz j3 j4 o2 hs2 => ?_⟩
  try simp only [cxK, r_lam, r_dnew, r_err, r_base, r_serr, r_var, r_c, r_seq, r_next, r_break, r_cont, r_drop, r_ret, r_retN, r_if, r_ife, r_asg, r_name, r_op, r_un, r_nil, r_cons, r_lst2, r_tup2, r_lc, r_for, r_ilist, r_itup, r_istr, r_irng1, r_irng2, r_ienum, r_ienumS, wipe, r_cb, r_test, r_b, r_not, r_notV, r_andV, r_orV, r_isN, r_notN, r_m1, r_m0, r_fld, sFld, putF, r_par, r_sub, r_gtup, r_gnil, r_gcons, r_sl, r_nopart, r_part, r_bm, r_bm0, r_chain, r_call, r_callK, r_meth, r_prop, r_make, r_and, r_or, andT_t, andT_f, orT_t, orT_f, ifK_t, ifK_f, ifE_t, ifE_f, andK_t, andK_f, orK_t, orK_f, L2.start, List.map_cons, List.map_nil, List.length_cons, List.length_nil, List.replicate_succ, List.replicate_zero, List.cons_append, List.nil_append, List.getElem?_cons_succ, List.getElem?_cons_zero, List.set_cons_succ, List.set_cons_zero, Nat.reduceAdd, Nat.reduceSub, Nat.zero_add, decide_true, decide_false, Bool.not_true, Bool.not_false, if_true, if_false, rEq, rNe, scal_ii, scal_ss, scal_bb, scal_is, scal_si, scal_ns, scal_ni, scal_in, scal_sn, scal_nn, rI, rI0, rU, rIxLH, rIxTH, rLenH, rLenTH, rSetL, rCatN, rTupOfN, rLstOfN, rSlLN, rSlTN, CDiv, CPow, CMul, CDivW, rNeNil, rLenO, rSplitN, rRepN, r_replC, rMulS, r_methK, rRepTN, r_cmK, rCmpO, rInO, r_ixO, r_revL, rInSelf, rCmpA, rBinO, Bool.false_xor, Bool.true_xor, r_starT, r_starL, r_cm, r_cval, selK_t, selK_f, rAppend, rIsK, reduceCtorEq, upd_same, at0, at1, at2, at3, at4, at5, at6, at7, at8, at9, at10, at11, at12, at13, ix3_0, ix3_1, ix3_2, V.int.injEq, V.bl.injEq, V.str.injEq, V.ref.injEq, Option.some.injEq, HO.lst.injEq, HO.tup.injEq, HO.ins.injEq, List.cons.injEq, and_true, true_and, exists_eq_left, exists_eq_left', exists_and_left, exists_eq', exists_eq, and_assoc, N_law_longer_right]
  refine ⟨fits (by decide), fun tp H3 n3 => ⟨_, SqT.of n3.at_, rfl, ?_⟩⟩
  try simp only [cxK, r_lam, r_dnew, r_err, r_base, r_serr, r_var, r_c, r_seq, r_next, r_break, r_cont, r_drop, r_ret, r_retN, r_if, r_ife, r_asg, r_name, r_op, r_un, r_nil, r_cons, r_lst2, r_tup2, r_lc, r_for, r_ilist, r_itup, r_istr, r_irng1, r_irng2, r_ienum, r_ienumS, wipe, r_cb, r_test, r_b, r_not, r_notV, r_andV, r_orV, r_isN, r_notN, r_m1, r_m0, r_fld, sFld, putF, r_par, r_sub, r_gtup, r_gnil, r_gcons, r_sl, r_nopart, r_part, r_bm, r_bm0, r_chain, r_call, r_callK, r_meth, r_prop, r_make, r_and, r_or, andT_t, andT_f, orT_t, orT_f, ifK_t, ifK_f, ifE_t, ifE_f, andK_t, andK_f, orK_t, orK_f, L2.start, List.map_cons, List.map_nil, List.length_cons, List.length_nil, List.replicate_succ, List.replicate_zero, List.cons_append, List.nil_append, List.getElem?_cons_succ, List.getElem?_cons_zero, List.set_cons_succ, List.set_cons_zero, Nat.reduceAdd, Nat.reduceSub, Nat.zero_add, decide_true, decide_false, Bool.not_true, Bool.not_false, if_true, if_false, rEq, rNe, scal_ii, scal_ss, scal_bb, scal_is, scal_si, scal_ns, scal_ni, scal_in, scal_sn, scal_nn, rI, rI0, rU, rIxLH, rIxTH, rLenH, rLenTH, rSetL, rCatN, rTupOfN, rLstOfN, rSlLN, rSlTN, CDiv, CPow, CMul, CDivW, rNeNil, rLenO, rSplitN, rRepN, r_replC, rMulS, r_methK, rRepTN, r_cmK, rCmpO, rInO, r_ixO, r_revL, rInSelf, rCmpA, rBinO, Bool.false_xor, Bool.true_xor, r_starT, r_starL, r_cm, r_cval, selK_t, selK_f, rAppend, rIsK, reduceCtorEq, upd_same, at0, at1, at2, at3, at4, at5, at6, at7, at8, at9, at10, at11, at12, at13, ix3_0, ix3_1, ix3_2, V.int.injEq, V.bl.injEq, V.str.injEq, V.ref.injEq, Option.some.injEq, HO.lst.injEq, HO.tup.injEq, HO.ins.injEq, List.cons.injEq, and_true, true_and, exists_eq_left, exists_eq_left', exists_and_left, exists_eq', exists_eq, and_assoc, N_law_longer_right]
  have hs3 := hs2.same n3.same
  refine ⟨a, j2, rfl, hs3, by omega, fun v j5 H4 hv hnew j6 j7 o4 hs4 => ?_⟩
  have hl2 := o2 _ _ la (s1 _ _ hl)
  have hp2 : IsPath K H2 p ns := let ⟨c, d, e, _⟩ := hs.same s1; hp.oth o2 e
  have hl4 := o4 _ _ la (n3.old hl2)
  have hp4 : IsPath K H4 p ns := let ⟨c, d, e, _⟩ := hs3; (hp2.same n3.same).oth o4 e
  have o04 : Oth a H H4 := Oth.trans (Oth.of s1) (Oth.trans o2 (Oth.trans (Oth.of n3.same) o4))
  have t4 : LamX.Tabs (TL lm K) H4 := let ⟨c, d, e, _⟩ := hs; tabs_oth ht o04 e
  have fin : ∀ G, LamX.ExtN H4 G → LamX.Tabs (TL lm K) G → Q (.bl true) G := fun G e t => q j5 G (by omega) (by omega) ((OthN.of o04).trans (OthN.ext e)) t (hs4.othN e)
  obtain ⟨dx, t, hp41, hp42⟩ := hp4
  try simp only [cxK, r_lam, r_dnew, r_err, r_base, r_serr, r_var, r_c, r_seq, r_next, r_break, r_cont, r_drop, r_ret, r_retN, r_if, r_ife, r_asg, r_name, r_op, r_un, r_nil, r_cons, r_lst2, r_tup2, r_lc, r_for, r_ilist, r_itup, r_istr, r_irng1, r_irng2, r_ienum, r_ienumS, wipe, r_cb, r_test, r_b, r_not, r_notV, r_andV, r_orV, r_isN, r_notN, r_m1, r_m0, r_fld, sFld, putF, r_par, r_sub, r_gtup, r_gnil, r_gcons, r_sl, r_nopart, r_part, r_bm, r_bm0, r_chain, r_call, r_callK, r_meth, r_prop, r_make, r_and, r_or, andT_t, andT_f, orT_t, orT_f, ifK_t, ifK_f, ifE_t, ifE_f, andK_t, andK_f, orK_t, orK_f, L2.start, List.map_cons, List.map_nil, List.length_cons, List.length_nil, List.replicate_succ, List.replicate_zero, List.cons_append, List.nil_append, List.getElem?_cons_succ, List.getElem?_cons_zero, List.set_cons_succ, List.set_cons_zero, Nat.reduceAdd, Nat.reduceSub, Nat.zero_add, decide_true, decide_false, Bool.not_true, Bool.not_false, if_true, if_false, rEq, rNe, scal_ii, scal_ss, scal_bb, scal_is, scal_si, scal_ns, scal_ni, scal_in, scal_sn, scal_nn, rI, rI0, rU, rIxLH, rIxTH, rLenH, rLenTH, rSetL, rCatN, rTupOfN, rLstOfN, rSlLN, rSlTN, CDiv, CPow, CMul, CDivW, rNeNil, rLenO, rSplitN, rRepN, r_replC, rMulS, r_methK, rRepTN, r_cmK, rCmpO, rInO, r_ixO, r_revL, rInSelf, rCmpA, rBinO, Bool.false_xor, Bool.true_xor, r_starT, r_starL, r_cm, r_cval, selK_t, selK_f, rAppend, rIsK, reduceCtorEq, upd_same, at0, at1, at2, at3, at4, at5, at6, at7, at8, at9, at10, at11, at12, at13, ix3_0, ix3_1, ix3_2, V.int.injEq, V.bl.injEq, V.str.injEq, V.ref.injEq, Option.some.injEq, HO.lst.injEq, HO.tup.injEq, HO.ins.injEq, List.cons.injEq, and_true, true_and, exists_eq_left, exists_eq_left', exists_and_left, exists_eq', exists_eq, and_assoc, N_law_longer_right]
  refine ⟨t4, fun H5 e5 t5 => TTinv.intro ?_⟩
  have k1 := e5 _ _ hp41 nofun
  have k2 := e5 _ _ hp42 nofun
  try simp only [cxK, r_lam, r_dnew, r_err, r_base, r_serr, r_var, r_c, r_seq, r_next, r_break, r_cont, r_drop, r_ret, r_retN, r_if, r_ife, r_asg, r_name, r_op, r_un, r_nil, r_cons, r_lst2, r_tup2, r_lc, r_for, r_ilist, r_itup, r_istr, r_irng1, r_irng2, r_ienum, r_ienumS, wipe, r_cb, r_test, r_b, r_not, r_notV, r_andV, r_orV, r_isN, r_notN, r_m1, r_m0, r_fld, sFld, putF, r_par, r_sub, r_gtup, r_gnil, r_gcons, r_sl, r_nopart, r_part, r_bm, r_bm0, r_chain, r_call, r_callK, r_meth, r_prop, r_make, r_and, r_or, andT_t, andT_f, orT_t, orT_f, ifK_t, ifK_f, ifE_t, ifE_f, andK_t, andK_f, orK_t, orK_f, L2.start, List.map_cons, List.map_nil, List.length_cons, List.length_nil, List.replicate_succ, List.replicate_zero, List.cons_append, List.nil_append, List.getElem?_cons_succ, List.getElem?_cons_zero, List.set_cons_succ, List.set_cons_zero, Nat.reduceAdd, Nat.reduceSub, Nat.zero_add, decide_true, decide_false, Bool.not_true, Bool.not_false, if_true, if_false, rEq, rNe, scal_ii, scal_ss, scal_bb, scal_is, scal_si, scal_ns, scal_ni, scal_in, scal_sn, scal_nn, rI, rI0, rU, rIxLH, rIxTH, rLenH, rLenTH, rSetL, rCatN, rTupOfN, rLstOfN, rSlLN, rSlTN, CDiv, CPow, CMul, CDivW, rNeNil, rLenO, rSplitN, rRepN, r_replC, rMulS, r_methK, rRepTN, r_cmK, rCmpO, rInO, r_ixO, r_revL, rInSelf, rCmpA, rBinO, Bool.false_xor, Bool.true_xor, r_starT, r_starL, r_cm, r_cval, selK_t, selK_f, rAppend, rIsK, reduceCtorEq, upd_same, at0, at1, at2, at3, at4, at5, at6, at7, at8, at9, at10, at11, at12, at13, ix3_0, ix3_1, ix3_2, V.int.injEq, V.bl.injEq, V.str.injEq, V.ref.injEq, Option.some.injEq, HO.lst.injEq, HO.tup.injEq, HO.ins.injEq, List.cons.injEq, and_true, true_and, exists_eq_left, exists_eq_left', exists_and_left, exists_eq', exists_eq, and_assoc, N_law_longer_right, k1]
  have hv5 := hv.extN e5
  obtain ⟨ty, fo, ro, rc, tx, bc⟩ := odd_bin T hv5
  refine ⟨ty, tx, fo, ro, rc, bc, p, ns, v, false, rfl, ⟨dx, t, k1, k2⟩, n12, hN, hv5, fun _ _ _ _ e => (nomatch e), fun d fs H6 _ sl hxd => errK.name hxd fun H7 s7 => ?_, fun _ _ _ e => (nomatch e)⟩
  have s57 : Same H5 H7 := same_trans sl s7
  have hl7 := s57 _ _ (e5 _ _ hl4 nofun)
  have p71 := s57 _ _ k1
  have p72 := s57 _ _ k2
  have t7 := tabs_same t5 s57
  have e47 := ext_trans e5 (ext_same s57)
  try simp only [cxK, r_lam, r_dnew, r_err, r_base, r_serr, r_var, r_c, r_seq, r_next, r_break, r_cont, r_drop, r_ret, r_retN, r_if, r_ife, r_asg, r_name, r_op, r_un, r_nil, r_cons, r_lst2, r_tup2, r_lc, r_for, r_ilist, r_itup, r_istr, r_irng1, r_irng2, r_ienum, r_ienumS, wipe, r_cb, r_test, r_b, r_not, r_notV, r_andV, r_orV, r_isN, r_notN, r_m1, r_m0, r_fld, sFld, putF, r_par, r_sub, r_gtup, r_gnil, r_gcons, r_sl, r_nopart, r_part, r_bm, r_bm0, r_chain, r_call, r_callK, r_meth, r_prop, r_make, r_and, r_or, andT_t, andT_f, orT_t, orT_f, ifK_t, ifK_f, ifE_t, ifE_f, andK_t, andK_f, orK_t, orK_f, L2.start, List.map_cons, List.map_nil, List.length_cons, List.length_nil, List.replicate_succ, List.replicate_zero, List.cons_append, List.nil_append, List.getElem?_cons_succ, List.getElem?_cons_zero, List.set_cons_succ, List.set_cons_zero, Nat.reduceAdd, Nat.reduceSub, Nat.zero_add, decide_true, decide_false, Bool.not_true, Bool.not_false, if_true, if_false, rEq, rNe, scal_ii, scal_ss, scal_bb, scal_is, scal_si, scal_ns, scal_ni, scal_in, scal_sn, scal_nn, rI, rI0, rU, rIxLH, rIxTH, rLenH, rLenTH, rSetL, rCatN, rTupOfN, rLstOfN, rSlLN, rSlTN, CDiv, CPow, CMul, CDivW, rNeNil, rLenO, rSplitN, rRepN, r_replC, rMulS, r_methK, rRepTN, r_cmK, rCmpO, rInO, r_ixO, r_revL, rInSelf, rCmpA, rBinO, Bool.false_xor, Bool.true_xor, r_starT, r_starL, r_cm, r_cval, selK_t, selK_f, rAppend, rIsK, reduceCtorEq, upd_same, at0, at1, at2, at3, at4, at5, at6, at7, at8, at9, at10, at11, at12, at13, ix3_0, ix3_1, ix3_2, V.int.injEq, V.bl.injEq, V.str.injEq, V.ref.injEq, Option.some.injEq, HO.lst.injEq, HO.tup.injEq, HO.ins.injEq, List.cons.injEq, and_true, true_and, exists_eq_left, exists_eq_left', exists_and_left, exists_eq', exists_eq, and_assoc, N_law_longer_right, hl7]
  have hzN : NmV H7 (V.str z) true := .inl ⟨z, rfl, by have := (isNm_fits hz).1; show z.length ≤ _; omega, hz.symm⟩
  by_cases c12 : ((ns.map V.str).length : Int) = 12
  · have d12 : ns.length = 12 := by rw [List.length_map] at c12; omega
    try simp only [cxK, r_lam, r_dnew, r_err, r_base, r_serr, r_var, r_c, r_seq, r_next, r_break, r_cont, r_drop, r_ret, r_retN, r_if, r_ife, r_asg, r_name, r_op, r_un, r_nil, r_cons, r_lst2, r_tup2, r_lc, r_for, r_ilist, r_itup, r_istr, r_irng1, r_irng2, r_ienum, r_ienumS, wipe, r_cb, r_test, r_b, r_not, r_notV, r_andV, r_orV, r_isN, r_notN, r_m1, r_m0, r_fld, sFld, putF, r_par, r_sub, r_gtup, r_gnil, r_gcons, r_sl, r_nopart, r_part, r_bm, r_bm0, r_chain, r_call, r_callK, r_meth, r_prop, r_make, r_and, r_or, andT_t, andT_f, orT_t, orT_f, ifK_t, ifK_f, ifE_t, ifE_f, andK_t, andK_f, orK_t, orK_f, L2.start, List.map_cons, List.map_nil, List.length_cons, List.length_nil, List.replicate_succ, List.replicate_zero, List.cons_append, List.nil_append, List.getElem?_cons_succ, List.getElem?_cons_zero, List.set_cons_succ, List.set_cons_zero, Nat.reduceAdd, Nat.reduceSub, Nat.zero_add, decide_true, decide_false, Bool.not_true, Bool.not_false, if_true, if_false, rEq, rNe, scal_ii, scal_ss, scal_bb, scal_is, scal_si, scal_ns, scal_ni, scal_in, scal_sn, scal_nn, rI, rI0, rU, rIxLH, rIxTH, rLenH, rLenTH, rSetL, rCatN, rTupOfN, rLstOfN, rSlLN, rSlTN, CDiv, CPow, CMul, CDivW, rNeNil, rLenO, rSplitN, rRepN, r_replC, rMulS, r_methK, rRepTN, r_cmK, rCmpO, rInO, r_ixO, r_revL, rInSelf, rCmpA, rBinO, Bool.false_xor, Bool.true_xor, r_starT, r_starL, r_cm, r_cval, selK_t, selK_f, rAppend, rIsK, reduceCtorEq, upd_same, at0, at1, at2, at3, at4, at5, at6, at7, at8, at9, at10, at11, at12, at13, ix3_0, ix3_1, ix3_2, V.int.injEq, V.bl.injEq, V.str.injEq, V.ref.injEq, Option.some.injEq, HO.lst.injEq, HO.tup.injEq, HO.ins.injEq, List.cons.injEq, and_true, true_and, exists_eq_left, exists_eq_left', exists_and_left, exists_eq', exists_eq, and_assoc, N_law_longer_right, c12]
    refine ⟨t7, fun H8 e8 t8 => TTinv.intro ?_⟩
    have r1 := e8 _ _ p71 nofun
    have r2 := e8 _ _ p72 nofun
    have hz8 := hzN.extN e8
    try simp only [cxK, r_lam, r_dnew, r_err, r_base, r_serr, r_var, r_c, r_seq, r_next, r_break, r_cont, r_drop, r_ret, r_retN, r_if, r_ife, r_asg, r_name, r_op, r_un, r_nil, r_cons, r_lst2, r_tup2, r_lc, r_for, r_ilist, r_itup, r_istr, r_irng1, r_irng2, r_ienum, r_ienumS, wipe, r_cb, r_test, r_b, r_not, r_notV, r_andV, r_orV, r_isN, r_notN, r_m1, r_m0, r_fld, sFld, putF, r_par, r_sub, r_gtup, r_gnil, r_gcons, r_sl, r_nopart, r_part, r_bm, r_bm0, r_chain, r_call, r_callK, r_meth, r_prop, r_make, r_and, r_or, andT_t, andT_f, orT_t, orT_f, ifK_t, ifK_f, ifE_t, ifE_f, andK_t, andK_f, orK_t, orK_f, L2.start, List.map_cons, List.map_nil, List.length_cons, List.length_nil, List.replicate_succ, List.replicate_zero, List.cons_append, List.nil_append, List.getElem?_cons_succ, List.getElem?_cons_zero, List.set_cons_succ, List.set_cons_zero, Nat.reduceAdd, Nat.reduceSub, Nat.zero_add, decide_true, decide_false, Bool.not_true, Bool.not_false, if_true, if_false, rEq, rNe, scal_ii, scal_ss, scal_bb, scal_is, scal_si, scal_ns, scal_ni, scal_in, scal_sn, scal_nn, rI, rI0, rU, rIxLH, rIxTH, rLenH, rLenTH, rSetL, rCatN, rTupOfN, rLstOfN, rSlLN, rSlTN, CDiv, CPow, CMul, CDivW, rNeNil, rLenO, rSplitN, rRepN, r_replC, rMulS, r_methK, rRepTN, r_cmK, rCmpO, rInO, r_ixO, r_revL, rInSelf, rCmpA, rBinO, Bool.false_xor, Bool.true_xor, r_starT, r_starL, r_cm, r_cval, selK_t, selK_f, rAppend, rIsK, reduceCtorEq, upd_same, at0, at1, at2, at3, at4, at5, at6, at7, at8, at9, at10, at11, at12, at13, ix3_0, ix3_1, ix3_2, V.int.injEq, V.bl.injEq, V.str.injEq, V.ref.injEq, Option.some.injEq, HO.lst.injEq, HO.tup.injEq, HO.ins.injEq, List.cons.injEq, and_true, true_and, exists_eq_left, exists_eq_left', exists_and_left, exists_eq', exists_eq, and_assoc, N_law_longer_right, r1]
    obtain ⟨ty2, fo2, ro2, rc2, tx2, bc2⟩ := odd_bin T hz8
    refine ⟨ty2, tx2, fo2, ro2, rc2, bc2, p, ns, .str z, true, rfl, ⟨dx, t, r1, r2⟩, n12, hN, hz8, fun _ _ _ _ _ lt => absurd lt (by omega), fun _ _ _ e => (nomatch e), fun d fs H9 _ _ sl2 hxd2 => errK.path hxd2 fun H10 s10 => ?_⟩
    try simp only [cxK, r_lam, r_dnew, r_err, r_base, r_serr, r_var, r_c, r_seq, r_next, r_break, r_cont, r_drop, r_ret, r_retN, r_if, r_ife, r_asg, r_name, r_op, r_un, r_nil, r_cons, r_lst2, r_tup2, r_lc, r_for, r_ilist, r_itup, r_istr, r_irng1, r_irng2, r_ienum, r_ienumS, wipe, r_cb, r_test, r_b, r_not, r_notV, r_andV, r_orV, r_isN, r_notN, r_m1, r_m0, r_fld, sFld, putF, r_par, r_sub, r_gtup, r_gnil, r_gcons, r_sl, r_nopart, r_part, r_bm, r_bm0, r_chain, r_call, r_callK, r_meth, r_prop, r_make, r_and, r_or, andT_t, andT_f, orT_t, orT_f, ifK_t, ifK_f, ifE_t, ifE_f, andK_t, andK_f, orK_t, orK_f, L2.start, List.map_cons, List.map_nil, List.length_cons, List.length_nil, List.replicate_succ, List.replicate_zero, List.cons_append, List.nil_append, List.getElem?_cons_succ, List.getElem?_cons_zero, List.set_cons_succ, List.set_cons_zero, Nat.reduceAdd, Nat.reduceSub, Nat.zero_add, decide_true, decide_false, Bool.not_true, Bool.not_false, if_true, if_false, rEq, rNe, scal_ii, scal_ss, scal_bb, scal_is, scal_si, scal_ns, scal_ni, scal_in, scal_sn, scal_nn, rI, rI0, rU, rIxLH, rIxTH, rLenH, rLenTH, rSetL, rCatN, rTupOfN, rLstOfN, rSlLN, rSlTN, CDiv, CPow, CMul, CDivW, rNeNil, rLenO, rSplitN, rRepN, r_replC, rMulS, r_methK, rRepTN, r_cmK, rCmpO, rInO, r_ixO, r_revL, rInSelf, rCmpA, rBinO, Bool.false_xor, Bool.true_xor, r_starT, r_starL, r_cm, r_cval, selK_t, selK_f, rAppend, rIsK, reduceCtorEq, upd_same, at0, at1, at2, at3, at4, at5, at6, at7, at8, at9, at10, at11, at12, at13, ix3_0, ix3_1, ix3_2, V.int.injEq, V.bl.injEq, V.str.injEq, V.ref.injEq, Option.some.injEq, HO.lst.injEq, HO.tup.injEq, HO.ins.injEq, List.cons.injEq, and_true, true_and, exists_eq_left, exists_eq_left', exists_and_left, exists_eq', exists_eq, and_assoc, N_law_longer_right]
    exact fin H10 (ext_trans e47 (ext_trans e8 (ext_same (same_trans sl2 s10)))) (tabs_same t8 (same_trans sl2 s10))
  · have d12 : ns.length < 12 := by rw [List.length_map] at c12; omega
    try simp only [cxK, r_lam, r_dnew, r_err, r_base, r_serr, r_var, r_c, r_seq, r_next, r_break, r_cont, r_drop, r_ret, r_retN, r_if, r_ife, r_asg, r_name, r_op, r_un, r_nil, r_cons, r_lst2, r_tup2, r_lc, r_for, r_ilist, r_itup, r_istr, r_irng1, r_irng2, r_ienum, r_ienumS, wipe, r_cb, r_test, r_b, r_not, r_notV, r_andV, r_orV, r_isN, r_notN, r_m1, r_m0, r_fld, sFld, putF, r_par, r_sub, r_gtup, r_gnil, r_gcons, r_sl, r_nopart, r_part, r_bm, r_bm0, r_chain, r_call, r_callK, r_meth, r_prop, r_make, r_and, r_or, andT_t, andT_f, orT_t, orT_f, ifK_t, ifK_f, ifE_t, ifE_f, andK_t, andK_f, orK_t, orK_f, L2.start, List.map_cons, List.map_nil, List.length_cons, List.length_nil, List.replicate_succ, List.replicate_zero, List.cons_append, List.nil_append, List.getElem?_cons_succ, List.getElem?_cons_zero, List.set_cons_succ, List.set_cons_zero, Nat.reduceAdd, Nat.reduceSub, Nat.zero_add, decide_true, decide_false, Bool.not_true, Bool.not_false, if_true, if_false, rEq, rNe, scal_ii, scal_ss, scal_bb, scal_is, scal_si, scal_ns, scal_ni, scal_in, scal_sn, scal_nn, rI, rI0, rU, rIxLH, rIxTH, rLenH, rLenTH, rSetL, rCatN, rTupOfN, rLstOfN, rSlLN, rSlTN, CDiv, CPow, CMul, CDivW, rNeNil, rLenO, rSplitN, rRepN, r_replC, rMulS, r_methK, rRepTN, r_cmK, rCmpO, rInO, r_ixO, r_revL, rInSelf, rCmpA, rBinO, Bool.false_xor, Bool.true_xor, r_starT, r_starL, r_cm, r_cval, selK_t, selK_f, rAppend, rIsK, reduceCtorEq, upd_same, at0, at1, at2, at3, at4, at5, at6, at7, at8, at9, at10, at11, at12, at13, ix3_0, ix3_1, ix3_2, V.int.injEq, V.bl.injEq, V.str.injEq, V.ref.injEq, Option.some.injEq, HO.lst.injEq, HO.tup.injEq, HO.ins.injEq, List.cons.injEq, and_true, true_and, exists_eq_left, exists_eq_left', exists_and_left, exists_eq', exists_eq, and_assoc, N_law_longer_right, c12, p71]
    obtain ⟨ty2, fo2, ro2, rc2, tx2, bc2⟩ := odd_bin T hzN
    refine ⟨ty2, tx2, fo2, ro2, rc2, bc2, p, ns, .str z, true, rfl, ⟨dx, t, p71, p72⟩, n12, hN, hzN, fun z' p' H8 ez _ _ s8 hp' => ?_, fun _ _ _ e => (nomatch e), fun _ _ _ _ e => absurd e (by omega)⟩
    cases ez
    obtain ⟨dx', t', k1', k2'⟩ := hp'
    try simp only [cxK, r_lam, r_dnew, r_err, r_base, r_serr, r_var, r_c, r_seq, r_next, r_break, r_cont, r_drop, r_ret, r_retN, r_if, r_ife, r_asg, r_name, r_op, r_un, r_nil, r_cons, r_lst2, r_tup2, r_lc, r_for, r_ilist, r_itup, r_istr, r_irng1, r_irng2, r_ienum, r_ienumS, wipe, r_cb, r_test, r_b, r_not, r_notV, r_andV, r_orV, r_isN, r_notN, r_m1, r_m0, r_fld, sFld, putF, r_par, r_sub, r_gtup, r_gnil, r_gcons, r_sl, r_nopart, r_part, r_bm, r_bm0, r_chain, r_call, r_callK, r_meth, r_prop, r_make, r_and, r_or, andT_t, andT_f, orT_t, orT_f, ifK_t, ifK_f, ifE_t, ifE_f, andK_t, andK_f, orK_t, orK_f, L2.start, List.map_cons, List.map_nil, List.length_cons, List.length_nil, List.replicate_succ, List.replicate_zero, List.cons_append, List.nil_append, List.getElem?_cons_succ, List.getElem?_cons_zero, List.set_cons_succ, List.set_cons_zero, Nat.reduceAdd, Nat.reduceSub, Nat.zero_add, decide_true, decide_false, Bool.not_true, Bool.not_false, if_true, if_false, rEq, rNe, scal_ii, scal_ss, scal_bb, scal_is, scal_si, scal_ns, scal_ni, scal_in, scal_sn, scal_nn, rI, rI0, rU, rIxLH, rIxTH, rLenH, rLenTH, rSetL, rCatN, rTupOfN, rLstOfN, rSlLN, rSlTN, CDiv, CPow, CMul, CDivW, rNeNil, rLenO, rSplitN, rRepN, r_replC, rMulS, r_methK, rRepTN, r_cmK, rCmpO, rInO, r_ixO, r_revL, rInSelf, rCmpA, rBinO, Bool.false_xor, Bool.true_xor, r_starT, r_starL, r_cm, r_cval, selK_t, selK_f, rAppend, rIsK, reduceCtorEq, upd_same, at0, at1, at2, at3, at4, at5, at6, at7, at8, at9, at10, at11, at12, at13, ix3_0, ix3_1, ix3_2, V.int.injEq, V.bl.injEq, V.str.injEq, V.ref.injEq, Option.some.injEq, HO.lst.injEq, HO.tup.injEq, HO.ins.injEq, List.cons.injEq, and_true, true_and, exists_eq_left, exists_eq_left', exists_and_left, exists_eq', exists_eq, and_assoc, N_law_longer_right, k1']
    have hl8 := s8 _ _ hl7
    have okz : ∀ x ∈ ns ++ [z], PyData.strOk x = true := fun x hx => by
      rcases List.mem_append.mp hx with h | h
      · exact (isNm_fits (hN x h)).2.1
      · rw [List.mem_singleton.mp h]
        exact (isNm_fits hz).2.1
    refine ⟨(cls_ok (T.c.fact 14 (f := fCls "Path") rfl)), (noat_ok (T.c.fact 15 (f := fNo "Path" "names") rfl)), _, rfl, fits (by decide), fun u9 H9 n9 => ?_⟩
    have hl9 := n9.old hl8
    have hu9 := n9.at_
    try simp only [cxK, r_lam, r_dnew, r_err, r_base, r_serr, r_var, r_c, r_seq, r_next, r_break, r_cont, r_drop, r_ret, r_retN, r_if, r_ife, r_asg, r_name, r_op, r_un, r_nil, r_cons, r_lst2, r_tup2, r_lc, r_for, r_ilist, r_itup, r_istr, r_irng1, r_irng2, r_ienum, r_ienumS, wipe, r_cb, r_test, r_b, r_not, r_notV, r_andV, r_orV, r_isN, r_notN, r_m1, r_m0, r_fld, sFld, putF, r_par, r_sub, r_gtup, r_gnil, r_gcons, r_sl, r_nopart, r_part, r_bm, r_bm0, r_chain, r_call, r_callK, r_meth, r_prop, r_make, r_and, r_or, andT_t, andT_f, orT_t, orT_f, ifK_t, ifK_f, ifE_t, ifE_f, andK_t, andK_f, orK_t, orK_f, L2.start, List.map_cons, List.map_nil, List.length_cons, List.length_nil, List.replicate_succ, List.replicate_zero, List.cons_append, List.nil_append, List.getElem?_cons_succ, List.getElem?_cons_zero, List.set_cons_succ, List.set_cons_zero, Nat.reduceAdd, Nat.reduceSub, Nat.zero_add, decide_true, decide_false, Bool.not_true, Bool.not_false, if_true, if_false, rEq, rNe, scal_ii, scal_ss, scal_bb, scal_is, scal_si, scal_ns, scal_ni, scal_in, scal_sn, scal_nn, rI, rI0, rU, rIxLH, rIxTH, rLenH, rLenTH, rSetL, rCatN, rTupOfN, rLstOfN, rSlLN, rSlTN, CDiv, CPow, CMul, CDivW, rNeNil, rLenO, rSplitN, rRepN, r_replC, rMulS, r_methK, rRepTN, r_cmK, rCmpO, rInO, r_ixO, r_revL, rInSelf, rCmpA, rBinO, Bool.false_xor, Bool.true_xor, r_starT, r_starL, r_cm, r_cval, selK_t, selK_f, rAppend, rIsK, reduceCtorEq, upd_same, at0, at1, at2, at3, at4, at5, at6, at7, at8, at9, at10, at11, at12, at13, ix3_0, ix3_1, ix3_2, V.int.injEq, V.bl.injEq, V.str.injEq, V.ref.injEq, Option.some.injEq, HO.lst.injEq, HO.tup.injEq, HO.ins.injEq, List.cons.injEq, and_true, true_and, exists_eq_left, exists_eq_left', exists_and_left, exists_eq', exists_eq, and_assoc, N_law_longer_right, hl9, hu9]
    refine ⟨fits (by simp; omega), fun u10 H10 n10 => ?_⟩
    have hu10 := n10.at_
    try simp only [cxK, r_lam, r_dnew, r_err, r_base, r_serr, r_var, r_c, r_seq, r_next, r_break, r_cont, r_drop, r_ret, r_retN, r_if, r_ife, r_asg, r_name, r_op, r_un, r_nil, r_cons, r_lst2, r_tup2, r_lc, r_for, r_ilist, r_itup, r_istr, r_irng1, r_irng2, r_ienum, r_ienumS, wipe, r_cb, r_test, r_b, r_not, r_notV, r_andV, r_orV, r_isN, r_notN, r_m1, r_m0, r_fld, sFld, putF, r_par, r_sub, r_gtup, r_gnil, r_gcons, r_sl, r_nopart, r_part, r_bm, r_bm0, r_chain, r_call, r_callK, r_meth, r_prop, r_make, r_and, r_or, andT_t, andT_f, orT_t, orT_f, ifK_t, ifK_f, ifE_t, ifE_f, andK_t, andK_f, orK_t, orK_f, L2.start, List.map_cons, List.map_nil, List.length_cons, List.length_nil, List.replicate_succ, List.replicate_zero, List.cons_append, List.nil_append, List.getElem?_cons_succ, List.getElem?_cons_zero, List.set_cons_succ, List.set_cons_zero, Nat.reduceAdd, Nat.reduceSub, Nat.zero_add, decide_true, decide_false, Bool.not_true, Bool.not_false, if_true, if_false, rEq, rNe, scal_ii, scal_ss, scal_bb, scal_is, scal_si, scal_ns, scal_ni, scal_in, scal_sn, scal_nn, rI, rI0, rU, rIxLH, rIxTH, rLenH, rLenTH, rSetL, rCatN, rTupOfN, rLstOfN, rSlLN, rSlTN, CDiv, CPow, CMul, CDivW, rNeNil, rLenO, rSplitN, rRepN, r_replC, rMulS, r_methK, rRepTN, r_cmK, rCmpO, rInO, r_ixO, r_revL, rInSelf, rCmpA, rBinO, Bool.false_xor, Bool.true_xor, r_starT, r_starL, r_cm, r_cval, selK_t, selK_f, rAppend, rIsK, reduceCtorEq, upd_same, at0, at1, at2, at3, at4, at5, at6, at7, at8, at9, at10, at11, at12, at13, ix3_0, ix3_1, ix3_2, V.int.injEq, V.bl.injEq, V.str.injEq, V.ref.injEq, Option.some.injEq, HO.lst.injEq, HO.tup.injEq, HO.ins.injEq, List.cons.injEq, and_true, true_and, exists_eq_left, exists_eq_left', exists_and_left, exists_eq', exists_eq, and_assoc, N_law_longer_right, hu10]
    intro u11 H11 n11
    have hu11 : H11 u11 = some (.tup ((ns ++ [z]).map V.str)) := by rw [n11.at_]; simp
    have q1' := n11.old (n10.old (n9.old k2'))
    refine eqD_strT q1' hu11 okz okz ?_
    rw [decide_eq_true rfl]
    have s711 := same_trans s8 (same_trans n9.same (same_trans n10.same n11.same))
    have p111 := s711 _ _ p71
    have p112 := s711 _ _ p72
    have hl11 := s711 _ _ hl7
    try simp only [cxK, r_lam, r_dnew, r_err, r_base, r_serr, r_var, r_c, r_seq, r_next, r_break, r_cont, r_drop, r_ret, r_retN, r_if, r_ife, r_asg, r_name, r_op, r_un, r_nil, r_cons, r_lst2, r_tup2, r_lc, r_for, r_ilist, r_itup, r_istr, r_irng1, r_irng2, r_ienum, r_ienumS, wipe, r_cb, r_test, r_b, r_not, r_notV, r_andV, r_orV, r_isN, r_notN, r_m1, r_m0, r_fld, sFld, putF, r_par, r_sub, r_gtup, r_gnil, r_gcons, r_sl, r_nopart, r_part, r_bm, r_bm0, r_chain, r_call, r_callK, r_meth, r_prop, r_make, r_and, r_or, andT_t, andT_f, orT_t, orT_f, ifK_t, ifK_f, ifE_t, ifE_f, andK_t, andK_f, orK_t, orK_f, L2.start, List.map_cons, List.map_nil, List.length_cons, List.length_nil, List.replicate_succ, List.replicate_zero, List.cons_append, List.nil_append, List.getElem?_cons_succ, List.getElem?_cons_zero, List.set_cons_succ, List.set_cons_zero, Nat.reduceAdd, Nat.reduceSub, Nat.zero_add, decide_true, decide_false, Bool.not_true, Bool.not_false, if_true, if_false, rEq, rNe, scal_ii, scal_ss, scal_bb, scal_is, scal_si, scal_ns, scal_ni, scal_in, scal_sn, scal_nn, rI, rI0, rU, rIxLH, rIxTH, rLenH, rLenTH, rSetL, rCatN, rTupOfN, rLstOfN, rSlLN, rSlTN, CDiv, CPow, CMul, CDivW, rNeNil, rLenO, rSplitN, rRepN, r_replC, rMulS, r_methK, rRepTN, r_cmK, rCmpO, rInO, r_ixO, r_revL, rInSelf, rCmpA, rBinO, Bool.false_xor, Bool.true_xor, r_starT, r_starL, r_cm, r_cval, selK_t, selK_f, rAppend, rIsK, reduceCtorEq, upd_same, at0, at1, at2, at3, at4, at5, at6, at7, at8, at9, at10, at11, at12, at13, ix3_0, ix3_1, ix3_2, V.int.injEq, V.bl.injEq, V.str.injEq, V.ref.injEq, Option.some.injEq, HO.lst.injEq, HO.tup.injEq, HO.ins.injEq, List.cons.injEq, and_true, true_and, exists_eq_left, exists_eq_left', exists_and_left, exists_eq', exists_eq, and_assoc, N_law_longer_right, p111]
    refine ⟨(cls_ok (T.c.fact 14 (f := fCls "Path") rfl)), (noat_ok (T.c.fact 15 (f := fNo "Path" "names") rfl)), _, rfl, ?_⟩
    try simp only [cxK, r_lam, r_dnew, r_err, r_base, r_serr, r_var, r_c, r_seq, r_next, r_break, r_cont, r_drop, r_ret, r_retN, r_if, r_ife, r_asg, r_name, r_op, r_un, r_nil, r_cons, r_lst2, r_tup2, r_lc, r_for, r_ilist, r_itup, r_istr, r_irng1, r_irng2, r_ienum, r_ienumS, wipe, r_cb, r_test, r_b, r_not, r_notV, r_andV, r_orV, r_isN, r_notN, r_m1, r_m0, r_fld, sFld, putF, r_par, r_sub, r_gtup, r_gnil, r_gcons, r_sl, r_nopart, r_part, r_bm, r_bm0, r_chain, r_call, r_callK, r_meth, r_prop, r_make, r_and, r_or, andT_t, andT_f, orT_t, orT_f, ifK_t, ifK_f, ifE_t, ifE_f, andK_t, andK_f, orK_t, orK_f, L2.start, List.map_cons, List.map_nil, List.length_cons, List.length_nil, List.replicate_succ, List.replicate_zero, List.cons_append, List.nil_append, List.getElem?_cons_succ, List.getElem?_cons_zero, List.set_cons_succ, List.set_cons_zero, Nat.reduceAdd, Nat.reduceSub, Nat.zero_add, decide_true, decide_false, Bool.not_true, Bool.not_false, if_true, if_false, rEq, rNe, scal_ii, scal_ss, scal_bb, scal_is, scal_si, scal_ns, scal_ni, scal_in, scal_sn, scal_nn, rI, rI0, rU, rIxLH, rIxTH, rLenH, rLenTH, rSetL, rCatN, rTupOfN, rLstOfN, rSlLN, rSlTN, CDiv, CPow, CMul, CDivW, rNeNil, rLenO, rSplitN, rRepN, r_replC, rMulS, r_methK, rRepTN, r_cmK, rCmpO, rInO, r_ixO, r_revL, rInSelf, rCmpA, rBinO, Bool.false_xor, Bool.true_xor, r_starT, r_starL, r_cm, r_cval, selK_t, selK_f, rAppend, rIsK, reduceCtorEq, upd_same, at0, at1, at2, at3, at4, at5, at6, at7, at8, at9, at10, at11, at12, at13, ix3_0, ix3_1, ix3_2, V.int.injEq, V.bl.injEq, V.str.injEq, V.ref.injEq, Option.some.injEq, HO.lst.injEq, HO.tup.injEq, HO.ins.injEq, List.cons.injEq, and_true, true_and, exists_eq_left, exists_eq_left', exists_and_left, exists_eq', exists_eq, and_assoc, N_law_longer_right, hl11]
    intro u12 H12 n12'
    refine eqD_strT (n12'.old p112) n12'.at_ (fun x hx => (isNm_fits (hN x hx)).2.1) (fun x hx => (isNm_fits (hN x hx)).2.1) ?_
    rw [decide_eq_true rfl]
    exact fin H12 (ext_trans e47 (ext_same (same_trans s711 n12'.same))) (tabs_same t7 (same_trans s711 n12'.same))
/-- == with what is no path -/
def spEqN (K : PySem.W.Frag) : Sp := fun vs H Q _ => ∃ (p : Addr) (v : V) (t : String), vs = [.ref p, v] ∧ TyOf K H v (.type t) ∧ PySem.W.kitOne K (.type t) (.ref (ga K "Path")) = some false ∧ Q (.bl false) H
theorem ok_Path_eqN (T : Tx fa fn K mg) : Fn gd P w K mg base 1 (aM "Path" "__eq__" K) [] (spEqN K) := by
  obtain ⟨fd, F⟩ := F_Path_eq T
  refine fn_all F sc_Path_eq (fun vs H Q E h => ?_) (b_Path_eq F) (fun cdv A outer s H vs Q E hr h => ⟨_, (pss_one (ps_ret (pe_and (pe_callB call_isi (by rfl) (T.free (T.c.fact 9 (f := fFree "isinstance") rfl)) (by decide +kernel) (pa_cons (pv 1) (pa_cons (pe_glob (v := .ref (ga _ "Path")) rfl (T.glo (T.c.fact 34 (f := fGlo "Path") rfl)) rfl) pa_nil))) (pe_one (pe_cmpR (op_eqD hr.r.units) (pe_fld (pv 0) rfl) (pe_fld (pv 1) rfl) (nomark _)))))), ?_⟩)
  · first | (obtain ⟨_, e, _⟩ := h; subst e; rfl) | (obtain ⟨_, _, e, _⟩ := h; subst e; rfl) | (obtain ⟨_, _, _, e, _⟩ := h; subst e; rfl) | (obtain ⟨_, _, _, _, e, _⟩ := h; subst e; rfl) | (obtain ⟨_, _, _, _, _, e, _⟩ := h; subst e; rfl) | (obtain ⟨_, _, _, _, _, _, e, _⟩ := h; subst e; rfl) | (obtain ⟨_, _, _, _, _, _, _, e, _⟩ := h; subst e; rfl) | (obtain ⟨_, _, _, _, _, _, _, _, e, _⟩ := h; subst e; rfl) | (obtain ⟨_, _, _, _, _, _, _, _, _, e, _⟩ := h; subst e; rfl) | (obtain ⟨_, _, _, _, _, _, _, _, _, _, e, _⟩ := h; subst e; rfl) | (obtain ⟨_, _, _, _, _, _, _, _, _, _, _, e, _⟩ := h; subst e; rfl)
  obtain ⟨p, v, t, rfl, ty, kt, q⟩ := h
  try simp only [cxK, r_lam, r_dnew, r_err, r_base, r_serr, r_var, r_c, r_seq, r_next, r_break, r_cont, r_drop, r_ret, r_retN, r_if, r_ife, r_asg, r_name, r_op, r_un, r_nil, r_cons, r_lst2, r_tup2, r_lc, r_for, r_ilist, r_itup, r_istr, r_irng1, r_irng2, r_ienum, r_ienumS, wipe, r_cb, r_test, r_b, r_not, r_notV, r_andV, r_orV, r_isN, r_notN, r_m1, r_m0, r_fld, sFld, putF, r_par, r_sub, r_gtup, r_gnil, r_gcons, r_sl, r_nopart, r_part, r_bm, r_bm0, r_chain, r_call, r_callK, r_meth, r_prop, r_make, r_and, r_or, andT_t, andT_f, orT_t, orT_f, ifK_t, ifK_f, ifE_t, ifE_f, andK_t, andK_f, orK_t, orK_f, L2.start, List.map_cons, List.map_nil, List.length_cons, List.length_nil, List.replicate_succ, List.replicate_zero, List.cons_append, List.nil_append, List.getElem?_cons_succ, List.getElem?_cons_zero, List.set_cons_succ, List.set_cons_zero, Nat.reduceAdd, Nat.reduceSub, Nat.zero_add, decide_true, decide_false, Bool.not_true, Bool.not_false, if_true, if_false, rEq, rNe, scal_ii, scal_ss, scal_bb, scal_is, scal_si, scal_ns, scal_ni, scal_in, scal_sn, scal_nn, rI, rI0, rU, rIxLH, rIxTH, rLenH, rLenTH, rSetL, rCatN, rTupOfN, rLstOfN, rSlLN, rSlTN, CDiv, CPow, CMul, CDivW, rNeNil, rLenO, rSplitN, rRepN, r_replC, rMulS, r_methK, rRepTN, r_cmK, rCmpO, rInO, r_ixO, r_revL, rInSelf, rCmpA, rBinO, Bool.false_xor, Bool.true_xor, r_starT, r_starL, r_cm, r_cval, selK_t, selK_f, rAppend, rIsK, reduceCtorEq, upd_same, at0, at1, at2, at3, at4, at5, at6, at7, at8, at9, at10, at11, at12, at13, ix3_0, ix3_1, ix3_2, V.int.injEq, V.bl.injEq, V.str.injEq, V.ref.injEq, Option.some.injEq, HO.lst.injEq, HO.tup.injEq, HO.ins.injEq, List.cons.injEq, and_true, true_and, exists_eq_left, exists_eq_left', exists_and_left, exists_eq', exists_eq, and_assoc, N_Path_eq]
  refine ⟨_, .ref _, _, _, false, rfl, .own _, .base ty, kt, ?_⟩
  try simp only [cxK, r_lam, r_dnew, r_err, r_base, r_serr, r_var, r_c, r_seq, r_next, r_break, r_cont, r_drop, r_ret, r_retN, r_if, r_ife, r_asg, r_name, r_op, r_un, r_nil, r_cons, r_lst2, r_tup2, r_lc, r_for, r_ilist, r_itup, r_istr, r_irng1, r_irng2, r_ienum, r_ienumS, wipe, r_cb, r_test, r_b, r_not, r_notV, r_andV, r_orV, r_isN, r_notN, r_m1, r_m0, r_fld, sFld, putF, r_par, r_sub, r_gtup, r_gnil, r_gcons, r_sl, r_nopart, r_part, r_bm, r_bm0, r_chain, r_call, r_callK, r_meth, r_prop, r_make, r_and, r_or, andT_t, andT_f, orT_t, orT_f, ifK_t, ifK_f, ifE_t, ifE_f, andK_t, andK_f, orK_t, orK_f, L2.start, List.map_cons, List.map_nil, List.length_cons, List.length_nil, List.replicate_succ, List.replicate_zero, List.cons_append, List.nil_append, List.getElem?_cons_succ, List.getElem?_cons_zero, List.set_cons_succ, List.set_cons_zero, Nat.reduceAdd, Nat.reduceSub, Nat.zero_add, decide_true, decide_false, Bool.not_true, Bool.not_false, if_true, if_false, rEq, rNe, scal_ii, scal_ss, scal_bb, scal_is, scal_si, scal_ns, scal_ni, scal_in, scal_sn, scal_nn, rI, rI0, rU, rIxLH, rIxTH, rLenH, rLenTH, rSetL, rCatN, rTupOfN, rLstOfN, rSlLN, rSlTN, CDiv, CPow, CMul, CDivW, rNeNil, rLenO, rSplitN, rRepN, r_replC, rMulS, r_methK, rRepTN, r_cmK, rCmpO, rInO, r_ixO, r_revL, rInSelf, rCmpA, rBinO, Bool.false_xor, Bool.true_xor, r_starT, r_starL, r_cm, r_cval, selK_t, selK_f, rAppend, rIsK, reduceCtorEq, upd_same, at0, at1, at2, at3, at4, at5, at6, at7, at8, at9, at10, at11, at12, at13, ix3_0, ix3_1, ix3_2, V.int.injEq, V.bl.injEq, V.str.injEq, V.ref.injEq, Option.some.injEq, HO.lst.injEq, HO.tup.injEq, HO.ins.injEq, List.cons.injEq, and_true, true_and, exists_eq_left, exists_eq_left', exists_and_left, exists_eq', exists_eq, and_assoc, N_Path_eq]
  exact q
def spCompared (K : PySem.W.Frag) : Sp := fun vs H Q _ => ∃ (l1 l2 : Addr) (ns ms : List Str), vs = [.ref l1, .ref l2] ∧ H l1 = some (.lst (ns.map V.str)) ∧ H l2 = some (.lst (ms.map V.str)) ∧ ns.length ≤ 12 ∧ (∀ x ∈ ns, isNm x = true) ∧ ms.length ≤ 12 ∧ (∀ x ∈ ms, isNm x = true) ∧ ∀ H', Same H H' → Q (.bl true) H'
def OddP (K : PySem.W.Frag) (H : Hp) (v : V) : Prop := ∃ t : String, TyOf K H v (.type t) ∧ PySem.W.notFirst K (ga K "Path") (.type t) = true ∧ PySem.W.kitOne K (.type t) (.ref (ga K "Path")) = some false
def OddPv (G : Hp) (_ : Addr) (_ : Nat) (acc : List V) (H' : Hp) : Prop := Same G H' ∧ acc = []
theorem ok_law_compared_right (T : Tx fa fn K mg) : Fn true P w K mg base 7 (aG "_law_compared_right" K) [] (spCompared K) := by
  obtain ⟨fd, F⟩ := F_law_compared_right T
  refine fn_all F sc_law_compared_right (fun vs H Q E h => ?_) (b_law_compared_right F) (fun cdv A outer s H vs Q E hr h => ⟨_, (pss_cons (ps_asg (pe_tup (pa_cons (pe_fn (ok_law_path_of_rowN T) (hr.mono (by decide)) rfl (g_law_path_of_row T) (k_law_path_of_row T) passD (pa_cons (pv 0) pa_nil)) (pa_cons (pe_fn (ok_law_path_of_rowN T) (hr.mono (by decide)) rfl (g_law_path_of_row T) (k_law_path_of_row T) passD (pa_cons (pv 1) pa_nil)) pa_nil))) (pg_tup (by rfl) (pgs_cons (pg_name (i := 2) sc_law_compared_right.nd rfl (Or.inr rfl)) (pgs_cons (pg_name (i := 3) sc_law_compared_right.nd rfl (Or.inl rfl)) pgs_nil))))
 (pss_cons (ps_set (i := 4) sc_law_compared_right.nd rfl (Or.inl rfl) (pe_lst (pa_cons (pe_cmpR (op_eqO (meth_ok (T.c.fact 48 (f := fMeth "Path" "__eq__") rfl)) (ok_Path_eq T) (hr.mono (by decide)) (Nat.lt_of_le_of_lt (Nat.le_add_right _ 64) hr.r.units) passD) (pv 2) (pv 3) (nomark _)) (pa_cons (pe_cmpR (op_eqO (meth_ok (T.c.fact 48 (f := fMeth "Path" "__eq__") rfl)) (ok_Path_eq T) (hr.mono (by decide)) (Nat.lt_of_le_of_lt (Nat.le_add_right _ 64) hr.r.units) passD) (pv 3) (pv 2) (nomark _)) pa_nil))))
 (pss_cons (ps_set (i := 4) sc_law_compared_right.nd rfl (Or.inl rfl) (pe_op op_cat_n (pv 4) (pe_lst (pa_cons (pe_cmpR (op_neO (ne_ok (T.c.fact 47 (f := fNe "Path") rfl)) (meth_ok (T.c.fact 48 (f := fMeth "Path" "__eq__") rfl)) (ok_Path_eq T) (hr.mono (by decide)) (Nat.lt_of_le_of_lt (Nat.add_le_add_left (by decide) _) hr.r.units) passD) (pv 2) (pv 3) (nomark _)) (pa_cons (pe_cmpR (op_neO (ne_ok (T.c.fact 47 (f := fNe "Path") rfl)) (meth_ok (T.c.fact 48 (f := fMeth "Path" "__eq__") rfl)) (ok_Path_eq T) (hr.mono (by decide)) (Nat.lt_of_le_of_lt (Nat.add_le_add_left (by decide) _) hr.r.units) passD) (pv 3) (pv 2) (nomark _)) pa_nil)))))
 (pss_cons (ps_if (pt_cmpR op_ne (pe_callB (call_repr hr) (by rfl) (T.free (T.c.fact 49 (f := fFree "repr") rfl)) (by decide +kernel) (pa_cons (pv 4) pa_nil)) (pe_callB (call_repr hr) (by rfl) (T.free (T.c.fact 49 (f := fFree "repr") rfl)) (by decide +kernel) (pa_cons (pe_op op_cat_n (pe_op op_rep_n (pe_lst (pa_cons (pe_cmpR (op_eqD hr.r.units) (pv 0) (pv 1) (nomark _)) pa_nil)) pe_int) (pe_op op_rep_n (pe_lst (pa_cons (pe_cmpR (op_neD hr.r.units) (pv 0) (pv 1) (nomark _)) pa_nil)) pe_int)) pa_nil)) (nomark _))
 (pss_one (ps_ret pe_bl))
 pss_nil)
 (pss_cons (ps_set (i := 5) sc_law_compared_right.nd rfl (Or.inl rfl) (pe_lst (pa_cons pe_non (pa_cons pe_int (pa_cons pe_bl (pa_cons pe_dnewK (pa_cons (pe_lst (pa_cons (pv 2) pa_nil)) (pa_cons (pe_tup (pa_cons (pv 2) pa_nil)) pa_nil))))))))
 (pss_cons (ps_set (i := 5) sc_law_compared_right.nd rfl (Or.inl rfl) (pe_op op_cat_n (pv 5) (pe_lst (pa_cons (pe_callTy call_tuple_n (by rfl) (T.free (T.c.fact 46 (f := fFree "tuple") rfl)) (by decide +kernel) (pa_cons (pv 0) pa_nil)) (pa_cons (pv 0) (pa_cons (pe_fn (ok_law_spelled T) (hr.mono (by decide)) rfl (g_law_spelled T) (k_law_spelled T) passD (pa_cons (pv 0) pa_nil)) (pa_cons (pe_callB call_len_lh (by rfl) (T.free (T.c.fact 0 (f := fFree "len") rfl)) (by decide +kernel) (pa_cons (pv 0) pa_nil)) pa_nil)))))))
 (pss_cons (ps_if (pt_cmpR (op_neD hr.r.units) (pe_lc (own := [("_law_odd", 6)]) (g := gName 6) rfl sc_law_compared_right.nd (pi_list (pv 5)) (blkOk_by (own := [("_law_odd", 6)]) (N := N_law_compared_right) (sc := defScope s_law_compared_right) (by decide +kernel)) (fun _ _ _ _ _ => (pg_name (i := 6) sc_law_compared_right.nd rfl (Or.inl rfl))) (fun _ _ _ _ _ => (pts_one (pt_cmpR op_isnot_bl (pe_cmpR (op_eqA (K' := K) rfl (meth_ok (T.c.fact 48 (f := fMeth "Path" "__eq__") rfl)) (ok_Path_eqN T) (hr.mono (by decide)) (Nat.lt_of_le_of_lt (Nat.le_add_right _ 64) hr.r.units) passL) (pv 2) (pv 6) (nomark _)) pe_bl (nomark _)))) (fun _ _ _ _ _ => pe_int)) (pe_lst pa_nil) (nomark _))
 (pss_one (ps_ret pe_bl))
 pss_nil)
 (pss_one (ps_ret (pe_cmpR (op_eqD hr.r.units) (pe_lc (own := [("_law_odd", 6)]) (g := gName 6) rfl sc_law_compared_right.nd (pi_list (pv 5)) (blkOk_by (own := [("_law_odd", 6)]) (N := N_law_compared_right) (sc := defScope s_law_compared_right) (by decide +kernel)) (fun _ _ _ _ _ => (pg_name (i := 6) sc_law_compared_right.nd rfl (Or.inl rfl))) (fun _ _ _ _ _ => (pts_one (pt_cmpR op_isnot_bl (pe_cmpR (op_neA (K' := K) rfl (ne_ok (T.c.fact 47 (f := fNe "Path") rfl)) (meth_ok (T.c.fact 48 (f := fMeth "Path" "__eq__") rfl)) (ok_Path_eqN T) (hr.mono (by decide)) (Nat.lt_of_le_of_lt (Nat.add_le_add_left (by decide) _) hr.r.units) passL) (pv 2) (pv 6) (nomark _)) pe_bl (nomark _)))) (fun _ _ _ _ _ => pe_int)) (pe_lst pa_nil) (nomark _))))))))))), ?_⟩)
  · first | (obtain ⟨_, e, _⟩ := h; subst e; rfl) | (obtain ⟨_, _, e, _⟩ := h; subst e; rfl) | (obtain ⟨_, _, _, e, _⟩ := h; subst e; rfl) | (obtain ⟨_, _, _, _, e, _⟩ := h; subst e; rfl) | (obtain ⟨_, _, _, _, _, e, _⟩ := h; subst e; rfl) | (obtain ⟨_, _, _, _, _, _, e, _⟩ := h; subst e; rfl) | (obtain ⟨_, _, _, _, _, _, _, e, _⟩ := h; subst e; rfl) | (obtain ⟨_, _, _, _, _, _, _, _, e, _⟩ := h; subst e; rfl) | (obtain ⟨_, _, _, _, _, _, _, _, _, e, _⟩ := h; subst e; rfl) | (obtain ⟨_, _, _, _, _, _, _, _, _, _, e, _⟩ := h; subst e; rfl) | (obtain ⟨_, _, _, _, _, _, _, _, _, _, _, e, _⟩ := h; subst e; rfl)
  obtain ⟨l1, l2, ns, ms, rfl, h1, h2, n12, hN, m12, hM, q⟩ := h
  try simp only [cxK, r_lam, r_dnew, r_err, r_base, r_serr, r_var, r_c, r_seq, r_next, r_break, r_cont, r_drop, r_ret, r_retN, r_if, r_ife, r_asg, r_name, r_op, r_un, r_nil, r_cons, r_lst2, r_tup2, r_lc, r_for, r_ilist, r_itup, r_istr, r_irng1, r_irng2, r_ienum, r_ienumS, wipe, r_cb, r_test, r_b, r_not, r_notV, r_andV, r_orV, r_isN, r_notN, r_m1, r_m0, r_fld, sFld, putF, r_par, r_sub, r_gtup, r_gnil, r_gcons, r_sl, r_nopart, r_part, r_bm, r_bm0, r_chain, r_call, r_callK, r_meth, r_prop, r_make, r_and, r_or, andT_t, andT_f, orT_t, orT_f, ifK_t, ifK_f, ifE_t, ifE_f, andK_t, andK_f, orK_t, orK_f, L2.start, List.map_cons, List.map_nil, List.length_cons, List.length_nil, List.replicate_succ, List.replicate_zero, List.cons_append, List.nil_append, List.getElem?_cons_succ, List.getElem?_cons_zero, List.set_cons_succ, List.set_cons_zero, Nat.reduceAdd, Nat.reduceSub, Nat.zero_add, decide_true, decide_false, Bool.not_true, Bool.not_false, if_true, if_false, rEq, rNe, scal_ii, scal_ss, scal_bb, scal_is, scal_si, scal_ns, scal_ni, scal_in, scal_sn, scal_nn, rI, rI0, rU, rIxLH, rIxTH, rLenH, rLenTH, rSetL, rCatN, rTupOfN, rLstOfN, rSlLN, rSlTN, CDiv, CPow, CMul, CDivW, rNeNil, rLenO, rSplitN, rRepN, r_replC, rMulS, r_methK, rRepTN, r_cmK, rCmpO, rInO, r_ixO, r_revL, rInSelf, rCmpA, rBinO, Bool.false_xor, Bool.true_xor, r_starT, r_starL, r_cm, r_cval, selK_t, selK_f, rAppend, rIsK, reduceCtorEq, upd_same, at0, at1, at2, at3, at4, at5, at6, at7, at8, at9, at10, at11, at12, at13, ix3_0, ix3_1, ix3_2, V.int.injEq, V.bl.injEq, V.str.injEq, V.ref.injEq, Option.some.injEq, HO.lst.injEq, HO.tup.injEq, HO.ins.injEq, List.cons.injEq, and_true, true_and, exists_eq_left, exists_eq_left', exists_and_left, exists_eq', exists_eq, and_assoc, N_law_compared_right]
  refine ⟨l1, ns, rfl, h1, n12, hN, fun p H1 s1 hp => ?_⟩
  try simp only [cxK, r_lam, r_dnew, r_err, r_base, r_serr, r_var, r_c, r_seq, r_next, r_break, r_cont, r_drop, r_ret, r_retN, r_if, r_ife, r_asg, r_name, r_op, r_un, r_nil, r_cons, r_lst2, r_tup2, r_lc, r_for, r_ilist, r_itup, r_istr, r_irng1, r_irng2, r_ienum, r_ienumS, wipe, r_cb, r_test, r_b, r_not, r_notV, r_andV, r_orV, r_isN, r_notN, r_m1, r_m0, r_fld, sFld, putF, r_par, r_sub, r_gtup, r_gnil, r_gcons, r_sl, r_nopart, r_part, r_bm, r_bm0, r_chain, r_call, r_callK, r_meth, r_prop, r_make, r_and, r_or, andT_t, andT_f, orT_t, orT_f, ifK_t, ifK_f, ifE_t, ifE_f, andK_t, andK_f, orK_t, orK_f, L2.start, List.map_cons, List.map_nil, List.length_cons, List.length_nil, List.replicate_succ, List.replicate_zero, List.cons_append, List.nil_append, List.getElem?_cons_succ, List.getElem?_cons_zero, List.set_cons_succ, List.set_cons_zero, Nat.reduceAdd, Nat.reduceSub, Nat.zero_add, decide_true, decide_false, Bool.not_true, Bool.not_false, if_true, if_false, rEq, rNe, scal_ii, scal_ss, scal_bb, scal_is, scal_si, scal_ns, scal_ni, scal_in, scal_sn, scal_nn, rI, rI0, rU, rIxLH, rIxTH, rLenH, rLenTH, rSetL, rCatN, rTupOfN, rLstOfN, rSlLN, rSlTN, CDiv, CPow, CMul, CDivW, rNeNil, rLenO, rSplitN, rRepN, r_replC, rMulS, r_methK, rRepTN, r_cmK, rCmpO, rInO, r_ixO, r_revL, rInSelf, rCmpA, rBinO, Bool.false_xor, Bool.true_xor, r_starT, r_starL, r_cm, r_cval, selK_t, selK_f, rAppend, rIsK, reduceCtorEq, upd_same, at0, at1, at2, at3, at4, at5, at6, at7, at8, at9, at10, at11, at12, at13, ix3_0, ix3_1, ix3_2, V.int.injEq, V.bl.injEq, V.str.injEq, V.ref.injEq, Option.some.injEq, HO.lst.injEq, HO.tup.injEq, HO.ins.injEq, List.cons.injEq, and_true, true_and, exists_eq_left, exists_eq_left', exists_and_left, exists_eq', exists_eq, and_assoc, N_law_compared_right]
  refine ⟨l2, ms, rfl, s1 _ _ h2, m12, hM, fun r H2 s2 hr2 => ?_⟩
  obtain ⟨dx, t, hp1, hp2⟩ := hp.same s2
  obtain ⟨dy, u, hq1, hq2⟩ := hr2
  try simp only [cxK, r_lam, r_dnew, r_err, r_base, r_serr, r_var, r_c, r_seq, r_next, r_break, r_cont, r_drop, r_ret, r_retN, r_if, r_ife, r_asg, r_name, r_op, r_un, r_nil, r_cons, r_lst2, r_tup2, r_lc, r_for, r_ilist, r_itup, r_istr, r_irng1, r_irng2, r_ienum, r_ienumS, wipe, r_cb, r_test, r_b, r_not, r_notV, r_andV, r_orV, r_isN, r_notN, r_m1, r_m0, r_fld, sFld, putF, r_par, r_sub, r_gtup, r_gnil, r_gcons, r_sl, r_nopart, r_part, r_bm, r_bm0, r_chain, r_call, r_callK, r_meth, r_prop, r_make, r_and, r_or, andT_t, andT_f, orT_t, orT_f, ifK_t, ifK_f, ifE_t, ifE_f, andK_t, andK_f, orK_t, orK_f, L2.start, List.map_cons, List.map_nil, List.length_cons, List.length_nil, List.replicate_succ, List.replicate_zero, List.cons_append, List.nil_append, List.getElem?_cons_succ, List.getElem?_cons_zero, List.set_cons_succ, List.set_cons_zero, Nat.reduceAdd, Nat.reduceSub, Nat.zero_add, decide_true, decide_false, Bool.not_true, Bool.not_false, if_true, if_false, rEq, rNe, scal_ii, scal_ss, scal_bb, scal_is, scal_si, scal_ns, scal_ni, scal_in, scal_sn, scal_nn, rI, rI0, rU, rIxLH, rIxTH, rLenH, rLenTH, rSetL, rCatN, rTupOfN, rLstOfN, rSlLN, rSlTN, CDiv, CPow, CMul, CDivW, rNeNil, rLenO, rSplitN, rRepN, r_replC, rMulS, r_methK, rRepTN, r_cmK, rCmpO, rInO, r_ixO, r_revL, rInSelf, rCmpA, rBinO, Bool.false_xor, Bool.true_xor, r_starT, r_starL, r_cm, r_cval, selK_t, selK_f, rAppend, rIsK, reduceCtorEq, upd_same, at0, at1, at2, at3, at4, at5, at6, at7, at8, at9, at10, at11, at12, at13, ix3_0, ix3_1, ix3_2, V.int.injEq, V.bl.injEq, V.str.injEq, V.ref.injEq, Option.some.injEq, HO.lst.injEq, HO.tup.injEq, HO.ins.injEq, List.cons.injEq, and_true, true_and, exists_eq_left, exists_eq_left', exists_and_left, exists_eq', exists_eq, and_assoc, N_law_compared_right]
  refine ⟨fits (by decide), fun tp H3 n3 => ⟨_, SqT.of n3.at_, rfl, ?_⟩⟩
  have hp3 := n3.old hp1
  have hp32 := n3.old hp2
  have hq3 := n3.old hq1
  have hq32 := n3.old hq2
  have l13 := n3.old (s2 _ _ (s1 _ _ h1))
  have l23 := n3.old (s2 _ _ (s1 _ _ h2))
  have s03 : Same H H3 := same_trans s1 (same_trans s2 n3.same)
  try simp only [cxK, r_lam, r_dnew, r_err, r_base, r_serr, r_var, r_c, r_seq, r_next, r_break, r_cont, r_drop, r_ret, r_retN, r_if, r_ife, r_asg, r_name, r_op, r_un, r_nil, r_cons, r_lst2, r_tup2, r_lc, r_for, r_ilist, r_itup, r_istr, r_irng1, r_irng2, r_ienum, r_ienumS, wipe, r_cb, r_test, r_b, r_not, r_notV, r_andV, r_orV, r_isN, r_notN, r_m1, r_m0, r_fld, sFld, putF, r_par, r_sub, r_gtup, r_gnil, r_gcons, r_sl, r_nopart, r_part, r_bm, r_bm0, r_chain, r_call, r_callK, r_meth, r_prop, r_make, r_and, r_or, andT_t, andT_f, orT_t, orT_f, ifK_t, ifK_f, ifE_t, ifE_f, andK_t, andK_f, orK_t, orK_f, L2.start, List.map_cons, List.map_nil, List.length_cons, List.length_nil, List.replicate_succ, List.replicate_zero, List.cons_append, List.nil_append, List.getElem?_cons_succ, List.getElem?_cons_zero, List.set_cons_succ, List.set_cons_zero, Nat.reduceAdd, Nat.reduceSub, Nat.zero_add, decide_true, decide_false, Bool.not_true, Bool.not_false, if_true, if_false, rEq, rNe, scal_ii, scal_ss, scal_bb, scal_is, scal_si, scal_ns, scal_ni, scal_in, scal_sn, scal_nn, rI, rI0, rU, rIxLH, rIxTH, rLenH, rLenTH, rSetL, rCatN, rTupOfN, rLstOfN, rSlLN, rSlTN, CDiv, CPow, CMul, CDivW, rNeNil, rLenO, rSplitN, rRepN, r_replC, rMulS, r_methK, rRepTN, r_cmK, rCmpO, rInO, r_ixO, r_revL, rInSelf, rCmpA, rBinO, Bool.false_xor, Bool.true_xor, r_starT, r_starL, r_cm, r_cval, selK_t, selK_f, rAppend, rIsK, reduceCtorEq, upd_same, at0, at1, at2, at3, at4, at5, at6, at7, at8, at9, at10, at11, at12, at13, ix3_0, ix3_1, ix3_2, V.int.injEq, V.bl.injEq, V.str.injEq, V.ref.injEq, Option.some.injEq, HO.lst.injEq, HO.tup.injEq, HO.ins.injEq, List.cons.injEq, and_true, true_and, exists_eq_left, exists_eq_left', exists_and_left, exists_eq', exists_eq, and_assoc, N_law_compared_right, hp3, hq3]
  refine ⟨p, r, ns, ms, rfl, ⟨dx, t, hp3, hp32⟩, ⟨dy, u, hq3, hq32⟩, hN, hM, ?_⟩
  try simp only [cxK, r_lam, r_dnew, r_err, r_base, r_serr, r_var, r_c, r_seq, r_next, r_break, r_cont, r_drop, r_ret, r_retN, r_if, r_ife, r_asg, r_name, r_op, r_un, r_nil, r_cons, r_lst2, r_tup2, r_lc, r_for, r_ilist, r_itup, r_istr, r_irng1, r_irng2, r_ienum, r_ienumS, wipe, r_cb, r_test, r_b, r_not, r_notV, r_andV, r_orV, r_isN, r_notN, r_m1, r_m0, r_fld, sFld, putF, r_par, r_sub, r_gtup, r_gnil, r_gcons, r_sl, r_nopart, r_part, r_bm, r_bm0, r_chain, r_call, r_callK, r_meth, r_prop, r_make, r_and, r_or, andT_t, andT_f, orT_t, orT_f, ifK_t, ifK_f, ifE_t, ifE_f, andK_t, andK_f, orK_t, orK_f, L2.start, List.map_cons, List.map_nil, List.length_cons, List.length_nil, List.replicate_succ, List.replicate_zero, List.cons_append, List.nil_append, List.getElem?_cons_succ, List.getElem?_cons_zero, List.set_cons_succ, List.set_cons_zero, Nat.reduceAdd, Nat.reduceSub, Nat.zero_add, decide_true, decide_false, Bool.not_true, Bool.not_false, if_true, if_false, rEq, rNe, scal_ii, scal_ss, scal_bb, scal_is, scal_si, scal_ns, scal_ni, scal_in, scal_sn, scal_nn, rI, rI0, rU, rIxLH, rIxTH, rLenH, rLenTH, rSetL, rCatN, rTupOfN, rLstOfN, rSlLN, rSlTN, CDiv, CPow, CMul, CDivW, rNeNil, rLenO, rSplitN, rRepN, r_replC, rMulS, r_methK, rRepTN, r_cmK, rCmpO, rInO, r_ixO, r_revL, rInSelf, rCmpA, rBinO, Bool.false_xor, Bool.true_xor, r_starT, r_starL, r_cm, r_cval, selK_t, selK_f, rAppend, rIsK, reduceCtorEq, upd_same, at0, at1, at2, at3, at4, at5, at6, at7, at8, at9, at10, at11, at12, at13, ix3_0, ix3_1, ix3_2, V.int.injEq, V.bl.injEq, V.str.injEq, V.ref.injEq, Option.some.injEq, HO.lst.injEq, HO.tup.injEq, HO.ins.injEq, List.cons.injEq, and_true, true_and, exists_eq_left, exists_eq_left', exists_and_left, exists_eq', exists_eq, and_assoc, N_law_compared_right, hp3, hq3]
  refine ⟨r, p, ms, ns, rfl, ⟨dy, u, hq3, hq32⟩, ⟨dx, t, hp3, hp32⟩, hM, hN, ?_⟩
  try simp only [cxK, r_lam, r_dnew, r_err, r_base, r_serr, r_var, r_c, r_seq, r_next, r_break, r_cont, r_drop, r_ret, r_retN, r_if, r_ife, r_asg, r_name, r_op, r_un, r_nil, r_cons, r_lst2, r_tup2, r_lc, r_for, r_ilist, r_itup, r_istr, r_irng1, r_irng2, r_ienum, r_ienumS, wipe, r_cb, r_test, r_b, r_not, r_notV, r_andV, r_orV, r_isN, r_notN, r_m1, r_m0, r_fld, sFld, putF, r_par, r_sub, r_gtup, r_gnil, r_gcons, r_sl, r_nopart, r_part, r_bm, r_bm0, r_chain, r_call, r_callK, r_meth, r_prop, r_make, r_and, r_or, andT_t, andT_f, orT_t, orT_f, ifK_t, ifK_f, ifE_t, ifE_f, andK_t, andK_f, orK_t, orK_f, L2.start, List.map_cons, List.map_nil, List.length_cons, List.length_nil, List.replicate_succ, List.replicate_zero, List.cons_append, List.nil_append, List.getElem?_cons_succ, List.getElem?_cons_zero, List.set_cons_succ, List.set_cons_zero, Nat.reduceAdd, Nat.reduceSub, Nat.zero_add, decide_true, decide_false, Bool.not_true, Bool.not_false, if_true, if_false, rEq, rNe, scal_ii, scal_ss, scal_bb, scal_is, scal_si, scal_ns, scal_ni, scal_in, scal_sn, scal_nn, rI, rI0, rU, rIxLH, rIxTH, rLenH, rLenTH, rSetL, rCatN, rTupOfN, rLstOfN, rSlLN, rSlTN, CDiv, CPow, CMul, CDivW, rNeNil, rLenO, rSplitN, rRepN, r_replC, rMulS, r_methK, rRepTN, r_cmK, rCmpO, rInO, r_ixO, r_revL, rInSelf, rCmpA, rBinO, Bool.false_xor, Bool.true_xor, r_starT, r_starL, r_cm, r_cval, selK_t, selK_f, rAppend, rIsK, reduceCtorEq, upd_same, at0, at1, at2, at3, at4, at5, at6, at7, at8, at9, at10, at11, at12, at13, ix3_0, ix3_1, ix3_2, V.int.injEq, V.bl.injEq, V.str.injEq, V.ref.injEq, Option.some.injEq, HO.lst.injEq, HO.tup.injEq, HO.ins.injEq, List.cons.injEq, and_true, true_and, exists_eq_left, exists_eq_left', exists_and_left, exists_eq', exists_eq, and_assoc, N_law_compared_right]
  refine ⟨fits (by decide), fun u4 H4 n4 => ?_⟩
  have hp4 := n4.old hp3
  have hq4 := n4.old hq3
  try simp only [cxK, r_lam, r_dnew, r_err, r_base, r_serr, r_var, r_c, r_seq, r_next, r_break, r_cont, r_drop, r_ret, r_retN, r_if, r_ife, r_asg, r_name, r_op, r_un, r_nil, r_cons, r_lst2, r_tup2, r_lc, r_for, r_ilist, r_itup, r_istr, r_irng1, r_irng2, r_ienum, r_ienumS, wipe, r_cb, r_test, r_b, r_not, r_notV, r_andV, r_orV, r_isN, r_notN, r_m1, r_m0, r_fld, sFld, putF, r_par, r_sub, r_gtup, r_gnil, r_gcons, r_sl, r_nopart, r_part, r_bm, r_bm0, r_chain, r_call, r_callK, r_meth, r_prop, r_make, r_and, r_or, andT_t, andT_f, orT_t, orT_f, ifK_t, ifK_f, ifE_t, ifE_f, andK_t, andK_f, orK_t, orK_f, L2.start, List.map_cons, List.map_nil, List.length_cons, List.length_nil, List.replicate_succ, List.replicate_zero, List.cons_append, List.nil_append, List.getElem?_cons_succ, List.getElem?_cons_zero, List.set_cons_succ, List.set_cons_zero, Nat.reduceAdd, Nat.reduceSub, Nat.zero_add, decide_true, decide_false, Bool.not_true, Bool.not_false, if_true, if_false, rEq, rNe, scal_ii, scal_ss, scal_bb, scal_is, scal_si, scal_ns, scal_ni, scal_in, scal_sn, scal_nn, rI, rI0, rU, rIxLH, rIxTH, rLenH, rLenTH, rSetL, rCatN, rTupOfN, rLstOfN, rSlLN, rSlTN, CDiv, CPow, CMul, CDivW, rNeNil, rLenO, rSplitN, rRepN, r_replC, rMulS, r_methK, rRepTN, r_cmK, rCmpO, rInO, r_ixO, r_revL, rInSelf, rCmpA, rBinO, Bool.false_xor, Bool.true_xor, r_starT, r_starL, r_cm, r_cval, selK_t, selK_f, rAppend, rIsK, reduceCtorEq, upd_same, at0, at1, at2, at3, at4, at5, at6, at7, at8, at9, at10, at11, at12, at13, ix3_0, ix3_1, ix3_2, V.int.injEq, V.bl.injEq, V.str.injEq, V.ref.injEq, Option.some.injEq, HO.lst.injEq, HO.tup.injEq, HO.ins.injEq, List.cons.injEq, and_true, true_and, exists_eq_left, exists_eq_left', exists_and_left, exists_eq', exists_eq, and_assoc, N_law_compared_right, hp4, hq4]
  refine ⟨p, r, ns, ms, rfl, ⟨dx, t, hp4, n4.old hp32⟩, ⟨dy, u, hq4, n4.old hq32⟩, hN, hM, ?_⟩
  try simp only [cxK, r_lam, r_dnew, r_err, r_base, r_serr, r_var, r_c, r_seq, r_next, r_break, r_cont, r_drop, r_ret, r_retN, r_if, r_ife, r_asg, r_name, r_op, r_un, r_nil, r_cons, r_lst2, r_tup2, r_lc, r_for, r_ilist, r_itup, r_istr, r_irng1, r_irng2, r_ienum, r_ienumS, wipe, r_cb, r_test, r_b, r_not, r_notV, r_andV, r_orV, r_isN, r_notN, r_m1, r_m0, r_fld, sFld, putF, r_par, r_sub, r_gtup, r_gnil, r_gcons, r_sl, r_nopart, r_part, r_bm, r_bm0, r_chain, r_call, r_callK, r_meth, r_prop, r_make, r_and, r_or, andT_t, andT_f, orT_t, orT_f, ifK_t, ifK_f, ifE_t, ifE_f, andK_t, andK_f, orK_t, orK_f, L2.start, List.map_cons, List.map_nil, List.length_cons, List.length_nil, List.replicate_succ, List.replicate_zero, List.cons_append, List.nil_append, List.getElem?_cons_succ, List.getElem?_cons_zero, List.set_cons_succ, List.set_cons_zero, Nat.reduceAdd, Nat.reduceSub, Nat.zero_add, decide_true, decide_false, Bool.not_true, Bool.not_false, if_true, if_false, rEq, rNe, scal_ii, scal_ss, scal_bb, scal_is, scal_si, scal_ns, scal_ni, scal_in, scal_sn, scal_nn, rI, rI0, rU, rIxLH, rIxTH, rLenH, rLenTH, rSetL, rCatN, rTupOfN, rLstOfN, rSlLN, rSlTN, CDiv, CPow, CMul, CDivW, rNeNil, rLenO, rSplitN, rRepN, r_replC, rMulS, r_methK, rRepTN, r_cmK, rCmpO, rInO, r_ixO, r_revL, rInSelf, rCmpA, rBinO, Bool.false_xor, Bool.true_xor, r_starT, r_starL, r_cm, r_cval, selK_t, selK_f, rAppend, rIsK, reduceCtorEq, upd_same, at0, at1, at2, at3, at4, at5, at6, at7, at8, at9, at10, at11, at12, at13, ix3_0, ix3_1, ix3_2, V.int.injEq, V.bl.injEq, V.str.injEq, V.ref.injEq, Option.some.injEq, HO.lst.injEq, HO.tup.injEq, HO.ins.injEq, List.cons.injEq, and_true, true_and, exists_eq_left, exists_eq_left', exists_and_left, exists_eq', exists_eq, and_assoc, N_law_compared_right, hp4, hq4]
  refine ⟨r, p, ms, ns, rfl, ⟨dy, u, hq4, n4.old hq32⟩, ⟨dx, t, hp4, n4.old hp32⟩, hM, hN, ?_⟩
  try simp only [cxK, r_lam, r_dnew, r_err, r_base, r_serr, r_var, r_c, r_seq, r_next, r_break, r_cont, r_drop, r_ret, r_retN, r_if, r_ife, r_asg, r_name, r_op, r_un, r_nil, r_cons, r_lst2, r_tup2, r_lc, r_for, r_ilist, r_itup, r_istr, r_irng1, r_irng2, r_ienum, r_ienumS, wipe, r_cb, r_test, r_b, r_not, r_notV, r_andV, r_orV, r_isN, r_notN, r_m1, r_m0, r_fld, sFld, putF, r_par, r_sub, r_gtup, r_gnil, r_gcons, r_sl, r_nopart, r_part, r_bm, r_bm0, r_chain, r_call, r_callK, r_meth, r_prop, r_make, r_and, r_or, andT_t, andT_f, orT_t, orT_f, ifK_t, ifK_f, ifE_t, ifE_f, andK_t, andK_f, orK_t, orK_f, L2.start, List.map_cons, List.map_nil, List.length_cons, List.length_nil, List.replicate_succ, List.replicate_zero, List.cons_append, List.nil_append, List.getElem?_cons_succ, List.getElem?_cons_zero, List.set_cons_succ, List.set_cons_zero, Nat.reduceAdd, Nat.reduceSub, Nat.zero_add, decide_true, decide_false, Bool.not_true, Bool.not_false, if_true, if_false, rEq, rNe, scal_ii, scal_ss, scal_bb, scal_is, scal_si, scal_ns, scal_ni, scal_in, scal_sn, scal_nn, rI, rI0, rU, rIxLH, rIxTH, rLenH, rLenTH, rSetL, rCatN, rTupOfN, rLstOfN, rSlLN, rSlTN, CDiv, CPow, CMul, CDivW, rNeNil, rLenO, rSplitN, rRepN, r_replC, rMulS, r_methK, rRepTN, r_cmK, rCmpO, rInO, r_ixO, r_revL, rInSelf, rCmpA, rBinO, Bool.false_xor, Bool.true_xor, r_starT, r_starL, r_cm, r_cval, selK_t, selK_f, rAppend, rIsK, reduceCtorEq, upd_same, at0, at1, at2, at3, at4, at5, at6, at7, at8, at9, at10, at11, at12, at13, ix3_0, ix3_1, ix3_2, V.int.injEq, V.bl.injEq, V.str.injEq, V.ref.injEq, Option.some.injEq, HO.lst.injEq, HO.tup.injEq, HO.ins.injEq, List.cons.injEq, and_true, true_and, exists_eq_left, exists_eq_left', exists_and_left, exists_eq', exists_eq, and_assoc, N_law_compared_right]
  refine ⟨fits (by decide), fun u5 H5 n5 => ?_⟩
  have h45 := n5.old n4.at_
  have h55 := n5.at_
  try simp only [cxK, r_lam, r_dnew, r_err, r_base, r_serr, r_var, r_c, r_seq, r_next, r_break, r_cont, r_drop, r_ret, r_retN, r_if, r_ife, r_asg, r_name, r_op, r_un, r_nil, r_cons, r_lst2, r_tup2, r_lc, r_for, r_ilist, r_itup, r_istr, r_irng1, r_irng2, r_ienum, r_ienumS, wipe, r_cb, r_test, r_b, r_not, r_notV, r_andV, r_orV, r_isN, r_notN, r_m1, r_m0, r_fld, sFld, putF, r_par, r_sub, r_gtup, r_gnil, r_gcons, r_sl, r_nopart, r_part, r_bm, r_bm0, r_chain, r_call, r_callK, r_meth, r_prop, r_make, r_and, r_or, andT_t, andT_f, orT_t, orT_f, ifK_t, ifK_f, ifE_t, ifE_f, andK_t, andK_f, orK_t, orK_f, L2.start, List.map_cons, List.map_nil, List.length_cons, List.length_nil, List.replicate_succ, List.replicate_zero, List.cons_append, List.nil_append, List.getElem?_cons_succ, List.getElem?_cons_zero, List.set_cons_succ, List.set_cons_zero, Nat.reduceAdd, Nat.reduceSub, Nat.zero_add, decide_true, decide_false, Bool.not_true, Bool.not_false, if_true, if_false, rEq, rNe, scal_ii, scal_ss, scal_bb, scal_is, scal_si, scal_ns, scal_ni, scal_in, scal_sn, scal_nn, rI, rI0, rU, rIxLH, rIxTH, rLenH, rLenTH, rSetL, rCatN, rTupOfN, rLstOfN, rSlLN, rSlTN, CDiv, CPow, CMul, CDivW, rNeNil, rLenO, rSplitN, rRepN, r_replC, rMulS, r_methK, rRepTN, r_cmK, rCmpO, rInO, r_ixO, r_revL, rInSelf, rCmpA, rBinO, Bool.false_xor, Bool.true_xor, r_starT, r_starL, r_cm, r_cval, selK_t, selK_f, rAppend, rIsK, reduceCtorEq, upd_same, at0, at1, at2, at3, at4, at5, at6, at7, at8, at9, at10, at11, at12, at13, ix3_0, ix3_1, ix3_2, V.int.injEq, V.bl.injEq, V.str.injEq, V.ref.injEq, Option.some.injEq, HO.lst.injEq, HO.tup.injEq, HO.ins.injEq, List.cons.injEq, and_true, true_and, exists_eq_left, exists_eq_left', exists_and_left, exists_eq', exists_eq, and_assoc, N_law_compared_right, h45, h55]
  refine ⟨fits (by decide), fun u6 H6 n6 => ?_⟩
  have sy : decide (ms = ns) = decide (ns = ms) := by
    by_cases e : ns = ms
    · rw [decide_eq_true e, decide_eq_true e.symm]
    · rw [decide_eq_false e, decide_eq_false fun z => e z.symm]
  obtain ⟨bb, eb⟩ : ∃ bb, bb = decide (ns = ms) := ⟨_, rfl⟩
  have h66 : H6 u6 = some (.lst [.bl bb, .bl bb, .bl (!bb), .bl (!bb)]) := by
    rw [n6.at_, sy, ← eb]
  have r4 : Rp (0 + 1 + (0 + 1 + (0 + 1 + (0 + 1 + 0)))) (max 0 (max 0 (max 0 (max 0 0))) + 1) (.list [.bool bb, .bool bb, .bool (!bb), .bool (!bb)]) := Rp.list (RpA.cons (Rp.bool _) (RpA.cons (Rp.bool _) (RpA.cons (Rp.bool _) (RpA.cons (Rp.bool _) RpA.nil))))
  refine repr_of (.lst (SqL.of h66) (.cons (.bl _) (.cons (.bl _) (.cons (.bl _) (.cons (.bl _) .nil))))) r4 (by decide) (by decide) (fun _ h => nomatch h) ?_
  have s36 := same_trans n4.same (same_trans n5.same n6.same)
  have l16 := s36 _ _ l13
  have l26 := s36 _ _ l23
  have okN : ∀ x ∈ ns, PyData.strOk x = true := fun x hx => (isNm_fits (hN x hx)).2.1
  have okM : ∀ x ∈ ms, PyData.strOk x = true := fun x hx => (isNm_fits (hM x hx)).2.1
  refine eqD_strL l16 l26 okN okM ?_
  rw [← eb]
  try simp only [cxK, r_lam, r_dnew, r_err, r_base, r_serr, r_var, r_c, r_seq, r_next, r_break, r_cont, r_drop, r_ret, r_retN, r_if, r_ife, r_asg, r_name, r_op, r_un, r_nil, r_cons, r_lst2, r_tup2, r_lc, r_for, r_ilist, r_itup, r_istr, r_irng1, r_irng2, r_ienum, r_ienumS, wipe, r_cb, r_test, r_b, r_not, r_notV, r_andV, r_orV, r_isN, r_notN, r_m1, r_m0, r_fld, sFld, putF, r_par, r_sub, r_gtup, r_gnil, r_gcons, r_sl, r_nopart, r_part, r_bm, r_bm0, r_chain, r_call, r_callK, r_meth, r_prop, r_make, r_and, r_or, andT_t, andT_f, orT_t, orT_f, ifK_t, ifK_f, ifE_t, ifE_f, andK_t, andK_f, orK_t, orK_f, L2.start, List.map_cons, List.map_nil, List.length_cons, List.length_nil, List.replicate_succ, List.replicate_zero, List.cons_append, List.nil_append, List.getElem?_cons_succ, List.getElem?_cons_zero, List.set_cons_succ, List.set_cons_zero, Nat.reduceAdd, Nat.reduceSub, Nat.zero_add, decide_true, decide_false, Bool.not_true, Bool.not_false, if_true, if_false, rEq, rNe, scal_ii, scal_ss, scal_bb, scal_is, scal_si, scal_ns, scal_ni, scal_in, scal_sn, scal_nn, rI, rI0, rU, rIxLH, rIxTH, rLenH, rLenTH, rSetL, rCatN, rTupOfN, rLstOfN, rSlLN, rSlTN, CDiv, CPow, CMul, CDivW, rNeNil, rLenO, rSplitN, rRepN, r_replC, rMulS, r_methK, rRepTN, r_cmK, rCmpO, rInO, r_ixO, r_revL, rInSelf, rCmpA, rBinO, Bool.false_xor, Bool.true_xor, r_starT, r_starL, r_cm, r_cval, selK_t, selK_f, rAppend, rIsK, reduceCtorEq, upd_same, at0, at1, at2, at3, at4, at5, at6, at7, at8, at9, at10, at11, at12, at13, ix3_0, ix3_1, ix3_2, V.int.injEq, V.bl.injEq, V.str.injEq, V.ref.injEq, Option.some.injEq, HO.lst.injEq, HO.tup.injEq, HO.ins.injEq, List.cons.injEq, and_true, true_and, exists_eq_left, exists_eq_left', exists_and_left, exists_eq', exists_eq, and_assoc, N_law_compared_right]
  refine ⟨fits (by decide), fun u7 H7 n7 => ?_⟩
  have h7 := n7.at_
  try simp only [cxK, r_lam, r_dnew, r_err, r_base, r_serr, r_var, r_c, r_seq, r_next, r_break, r_cont, r_drop, r_ret, r_retN, r_if, r_ife, r_asg, r_name, r_op, r_un, r_nil, r_cons, r_lst2, r_tup2, r_lc, r_for, r_ilist, r_itup, r_istr, r_irng1, r_irng2, r_ienum, r_ienumS, wipe, r_cb, r_test, r_b, r_not, r_notV, r_andV, r_orV, r_isN, r_notN, r_m1, r_m0, r_fld, sFld, putF, r_par, r_sub, r_gtup, r_gnil, r_gcons, r_sl, r_nopart, r_part, r_bm, r_bm0, r_chain, r_call, r_callK, r_meth, r_prop, r_make, r_and, r_or, andT_t, andT_f, orT_t, orT_f, ifK_t, ifK_f, ifE_t, ifE_f, andK_t, andK_f, orK_t, orK_f, L2.start, List.map_cons, List.map_nil, List.length_cons, List.length_nil, List.replicate_succ, List.replicate_zero, List.cons_append, List.nil_append, List.getElem?_cons_succ, List.getElem?_cons_zero, List.set_cons_succ, List.set_cons_zero, Nat.reduceAdd, Nat.reduceSub, Nat.zero_add, decide_true, decide_false, Bool.not_true, Bool.not_false, if_true, if_false, rEq, rNe, scal_ii, scal_ss, scal_bb, scal_is, scal_si, scal_ns, scal_ni, scal_in, scal_sn, scal_nn, rI, rI0, rU, rIxLH, rIxTH, rLenH, rLenTH, rSetL, rCatN, rTupOfN, rLstOfN, rSlLN, rSlTN, CDiv, CPow, CMul, CDivW, rNeNil, rLenO, rSplitN, rRepN, r_replC, rMulS, r_methK, rRepTN, r_cmK, rCmpO, rInO, r_ixO, r_revL, rInSelf, rCmpA, rBinO, Bool.false_xor, Bool.true_xor, r_starT, r_starL, r_cm, r_cval, selK_t, selK_f, rAppend, rIsK, reduceCtorEq, upd_same, at0, at1, at2, at3, at4, at5, at6, at7, at8, at9, at10, at11, at12, at13, ix3_0, ix3_1, ix3_2, V.int.injEq, V.bl.injEq, V.str.injEq, V.ref.injEq, Option.some.injEq, HO.lst.injEq, HO.tup.injEq, HO.ins.injEq, List.cons.injEq, and_true, true_and, exists_eq_left, exists_eq_left', exists_and_left, exists_eq', exists_eq, and_assoc, N_law_compared_right, h7]
  refine ⟨by decide, by decide, by decide, fun u8 H8 n8 => ?_⟩
  have s68 := same_trans n7.same n8.same
  refine neD_strL (s68 _ _ l16) (s68 _ _ l26) okN okM ?_
  rw [← eb]
  try simp only [cxK, r_lam, r_dnew, r_err, r_base, r_serr, r_var, r_c, r_seq, r_next, r_break, r_cont, r_drop, r_ret, r_retN, r_if, r_ife, r_asg, r_name, r_op, r_un, r_nil, r_cons, r_lst2, r_tup2, r_lc, r_for, r_ilist, r_itup, r_istr, r_irng1, r_irng2, r_ienum, r_ienumS, wipe, r_cb, r_test, r_b, r_not, r_notV, r_andV, r_orV, r_isN, r_notN, r_m1, r_m0, r_fld, sFld, putF, r_par, r_sub, r_gtup, r_gnil, r_gcons, r_sl, r_nopart, r_part, r_bm, r_bm0, r_chain, r_call, r_callK, r_meth, r_prop, r_make, r_and, r_or, andT_t, andT_f, orT_t, orT_f, ifK_t, ifK_f, ifE_t, ifE_f, andK_t, andK_f, orK_t, orK_f, L2.start, List.map_cons, List.map_nil, List.length_cons, List.length_nil, List.replicate_succ, List.replicate_zero, List.cons_append, List.nil_append, List.getElem?_cons_succ, List.getElem?_cons_zero, List.set_cons_succ, List.set_cons_zero, Nat.reduceAdd, Nat.reduceSub, Nat.zero_add, decide_true, decide_false, Bool.not_true, Bool.not_false, if_true, if_false, rEq, rNe, scal_ii, scal_ss, scal_bb, scal_is, scal_si, scal_ns, scal_ni, scal_in, scal_sn, scal_nn, rI, rI0, rU, rIxLH, rIxTH, rLenH, rLenTH, rSetL, rCatN, rTupOfN, rLstOfN, rSlLN, rSlTN, CDiv, CPow, CMul, CDivW, rNeNil, rLenO, rSplitN, rRepN, r_replC, rMulS, r_methK, rRepTN, r_cmK, rCmpO, rInO, r_ixO, r_revL, rInSelf, rCmpA, rBinO, Bool.false_xor, Bool.true_xor, r_starT, r_starL, r_cm, r_cval, selK_t, selK_f, rAppend, rIsK, reduceCtorEq, upd_same, at0, at1, at2, at3, at4, at5, at6, at7, at8, at9, at10, at11, at12, at13, ix3_0, ix3_1, ix3_2, V.int.injEq, V.bl.injEq, V.str.injEq, V.ref.injEq, Option.some.injEq, HO.lst.injEq, HO.tup.injEq, HO.ins.injEq, List.cons.injEq, and_true, true_and, exists_eq_left, exists_eq_left', exists_and_left, exists_eq', exists_eq, and_assoc, N_law_compared_right]
  refine ⟨fits (by decide), fun u9 H9 n9 => ?_⟩
  have h9 := n9.at_
  try simp only [cxK, r_lam, r_dnew, r_err, r_base, r_serr, r_var, r_c, r_seq, r_next, r_break, r_cont, r_drop, r_ret, r_retN, r_if, r_ife, r_asg, r_name, r_op, r_un, r_nil, r_cons, r_lst2, r_tup2, r_lc, r_for, r_ilist, r_itup, r_istr, r_irng1, r_irng2, r_ienum, r_ienumS, wipe, r_cb, r_test, r_b, r_not, r_notV, r_andV, r_orV, r_isN, r_notN, r_m1, r_m0, r_fld, sFld, putF, r_par, r_sub, r_gtup, r_gnil, r_gcons, r_sl, r_nopart, r_part, r_bm, r_bm0, r_chain, r_call, r_callK, r_meth, r_prop, r_make, r_and, r_or, andT_t, andT_f, orT_t, orT_f, ifK_t, ifK_f, ifE_t, ifE_f, andK_t, andK_f, orK_t, orK_f, L2.start, List.map_cons, List.map_nil, List.length_cons, List.length_nil, List.replicate_succ, List.replicate_zero, List.cons_append, List.nil_append, List.getElem?_cons_succ, List.getElem?_cons_zero, List.set_cons_succ, List.set_cons_zero, Nat.reduceAdd, Nat.reduceSub, Nat.zero_add, decide_true, decide_false, Bool.not_true, Bool.not_false, if_true, if_false, rEq, rNe, scal_ii, scal_ss, scal_bb, scal_is, scal_si, scal_ns, scal_ni, scal_in, scal_sn, scal_nn, rI, rI0, rU, rIxLH, rIxTH, rLenH, rLenTH, rSetL, rCatN, rTupOfN, rLstOfN, rSlLN, rSlTN, CDiv, CPow, CMul, CDivW, rNeNil, rLenO, rSplitN, rRepN, r_replC, rMulS, r_methK, rRepTN, r_cmK, rCmpO, rInO, r_ixO, r_revL, rInSelf, rCmpA, rBinO, Bool.false_xor, Bool.true_xor, r_starT, r_starL, r_cm, r_cval, selK_t, selK_f, rAppend, rIsK, reduceCtorEq, upd_same, at0, at1, at2, at3, at4, at5, at6, at7, at8, at9, at10, at11, at12, at13, ix3_0, ix3_1, ix3_2, V.int.injEq, V.bl.injEq, V.str.injEq, V.ref.injEq, Option.some.injEq, HO.lst.injEq, HO.tup.injEq, HO.ins.injEq, List.cons.injEq, and_true, true_and, exists_eq_left, exists_eq_left', exists_and_left, exists_eq', exists_eq, and_assoc, N_law_compared_right, h9]
  refine ⟨by decide, by decide, by decide, fun u10 H10 n10 => ?_⟩
  have a8 := n10.old (n9.old n8.at_)
  have a10 := n10.at_
  try simp only [cxK, r_lam, r_dnew, r_err, r_base, r_serr, r_var, r_c, r_seq, r_next, r_break, r_cont, r_drop, r_ret, r_retN, r_if, r_ife, r_asg, r_name, r_op, r_un, r_nil, r_cons, r_lst2, r_tup2, r_lc, r_for, r_ilist, r_itup, r_istr, r_irng1, r_irng2, r_ienum, r_ienumS, wipe, r_cb, r_test, r_b, r_not, r_notV, r_andV, r_orV, r_isN, r_notN, r_m1, r_m0, r_fld, sFld, putF, r_par, r_sub, r_gtup, r_gnil, r_gcons, r_sl, r_nopart, r_part, r_bm, r_bm0, r_chain, r_call, r_callK, r_meth, r_prop, r_make, r_and, r_or, andT_t, andT_f, orT_t, orT_f, ifK_t, ifK_f, ifE_t, ifE_f, andK_t, andK_f, orK_t, orK_f, L2.start, List.map_cons, List.map_nil, List.length_cons, List.length_nil, List.replicate_succ, List.replicate_zero, List.cons_append, List.nil_append, List.getElem?_cons_succ, List.getElem?_cons_zero, List.set_cons_succ, List.set_cons_zero, Nat.reduceAdd, Nat.reduceSub, Nat.zero_add, decide_true, decide_false, Bool.not_true, Bool.not_false, if_true, if_false, rEq, rNe, scal_ii, scal_ss, scal_bb, scal_is, scal_si, scal_ns, scal_ni, scal_in, scal_sn, scal_nn, rI, rI0, rU, rIxLH, rIxTH, rLenH, rLenTH, rSetL, rCatN, rTupOfN, rLstOfN, rSlLN, rSlTN, CDiv, CPow, CMul, CDivW, rNeNil, rLenO, rSplitN, rRepN, r_replC, rMulS, r_methK, rRepTN, r_cmK, rCmpO, rInO, r_ixO, r_revL, rInSelf, rCmpA, rBinO, Bool.false_xor, Bool.true_xor, r_starT, r_starL, r_cm, r_cval, selK_t, selK_f, rAppend, rIsK, reduceCtorEq, upd_same, at0, at1, at2, at3, at4, at5, at6, at7, at8, at9, at10, at11, at12, at13, ix3_0, ix3_1, ix3_2, V.int.injEq, V.bl.injEq, V.str.injEq, V.ref.injEq, Option.some.injEq, HO.lst.injEq, HO.tup.injEq, HO.ins.injEq, List.cons.injEq, and_true, true_and, exists_eq_left, exists_eq_left', exists_and_left, exists_eq', exists_eq, and_assoc, N_law_compared_right, a8, a10]
  refine ⟨fits (by simp), fun u11 H11 n11 => ?_⟩
  have h11 : H11 u11 = some (.lst [.bl bb, .bl bb, .bl (!bb), .bl (!bb)]) := n11.at_
  refine repr_of (.lst (SqL.of h11) (.cons (.bl _) (.cons (.bl _) (.cons (.bl _) (.cons (.bl _) .nil))))) r4 (by decide) (by decide) (fun _ h => nomatch h) ?_
  have s311 := same_trans s36 (same_trans s68 (same_trans n9.same (same_trans n10.same n11.same)))
  have hp11 := s311 _ _ hp3
  have l111 := s311 _ _ l13
  try simp only [cxK, r_lam, r_dnew, r_err, r_base, r_serr, r_var, r_c, r_seq, r_next, r_break, r_cont, r_drop, r_ret, r_retN, r_if, r_ife, r_asg, r_name, r_op, r_un, r_nil, r_cons, r_lst2, r_tup2, r_lc, r_for, r_ilist, r_itup, r_istr, r_irng1, r_irng2, r_ienum, r_ienumS, wipe, r_cb, r_test, r_b, r_not, r_notV, r_andV, r_orV, r_isN, r_notN, r_m1, r_m0, r_fld, sFld, putF, r_par, r_sub, r_gtup, r_gnil, r_gcons, r_sl, r_nopart, r_part, r_bm, r_bm0, r_chain, r_call, r_callK, r_meth, r_prop, r_make, r_and, r_or, andT_t, andT_f, orT_t, orT_f, ifK_t, ifK_f, ifE_t, ifE_f, andK_t, andK_f, orK_t, orK_f, L2.start, List.map_cons, List.map_nil, List.length_cons, List.length_nil, List.replicate_succ, List.replicate_zero, List.cons_append, List.nil_append, List.getElem?_cons_succ, List.getElem?_cons_zero, List.set_cons_succ, List.set_cons_zero, Nat.reduceAdd, Nat.reduceSub, Nat.zero_add, decide_true, decide_false, Bool.not_true, Bool.not_false, if_true, if_false, rEq, rNe, scal_ii, scal_ss, scal_bb, scal_is, scal_si, scal_ns, scal_ni, scal_in, scal_sn, scal_nn, rI, rI0, rU, rIxLH, rIxTH, rLenH, rLenTH, rSetL, rCatN, rTupOfN, rLstOfN, rSlLN, rSlTN, CDiv, CPow, CMul, CDivW, rNeNil, rLenO, rSplitN, rRepN, r_replC, rMulS, r_methK, rRepTN, r_cmK, rCmpO, rInO, r_ixO, r_revL, rInSelf, rCmpA, rBinO, Bool.false_xor, Bool.true_xor, r_starT, r_starL, r_cm, r_cval, selK_t, selK_f, rAppend, rIsK, reduceCtorEq, upd_same, at0, at1, at2, at3, at4, at5, at6, at7, at8, at9, at10, at11, at12, at13, ix3_0, ix3_1, ix3_2, V.int.injEq, V.bl.injEq, V.str.injEq, V.ref.injEq, Option.some.injEq, HO.lst.injEq, HO.tup.injEq, HO.ins.injEq, List.cons.injEq, and_true, true_and, exists_eq_left, exists_eq_left', exists_and_left, exists_eq', exists_eq, and_assoc, N_law_compared_right]
  intro q1 G1 g1
  refine ⟨fits (by decide), fun q2 G2 g2 => ⟨fits (by decide), fun q3 G3 g3 => ⟨fits (by decide), fun q4 G4 g4 => ?_⟩⟩⟩
  have sG4 := same_trans g1.same (same_trans g2.same (same_trans g3.same g4.same))
  have lG4 := sG4 _ _ l111
  try simp only [cxK, r_lam, r_dnew, r_err, r_base, r_serr, r_var, r_c, r_seq, r_next, r_break, r_cont, r_drop, r_ret, r_retN, r_if, r_ife, r_asg, r_name, r_op, r_un, r_nil, r_cons, r_lst2, r_tup2, r_lc, r_for, r_ilist, r_itup, r_istr, r_irng1, r_irng2, r_ienum, r_ienumS, wipe, r_cb, r_test, r_b, r_not, r_notV, r_andV, r_orV, r_isN, r_notN, r_m1, r_m0, r_fld, sFld, putF, r_par, r_sub, r_gtup, r_gnil, r_gcons, r_sl, r_nopart, r_part, r_bm, r_bm0, r_chain, r_call, r_callK, r_meth, r_prop, r_make, r_and, r_or, andT_t, andT_f, orT_t, orT_f, ifK_t, ifK_f, ifE_t, ifE_f, andK_t, andK_f, orK_t, orK_f, L2.start, List.map_cons, List.map_nil, List.length_cons, List.length_nil, List.replicate_succ, List.replicate_zero, List.cons_append, List.nil_append, List.getElem?_cons_succ, List.getElem?_cons_zero, List.set_cons_succ, List.set_cons_zero, Nat.reduceAdd, Nat.reduceSub, Nat.zero_add, decide_true, decide_false, Bool.not_true, Bool.not_false, if_true, if_false, rEq, rNe, scal_ii, scal_ss, scal_bb, scal_is, scal_si, scal_ns, scal_ni, scal_in, scal_sn, scal_nn, rI, rI0, rU, rIxLH, rIxTH, rLenH, rLenTH, rSetL, rCatN, rTupOfN, rLstOfN, rSlLN, rSlTN, CDiv, CPow, CMul, CDivW, rNeNil, rLenO, rSplitN, rRepN, r_replC, rMulS, r_methK, rRepTN, r_cmK, rCmpO, rInO, r_ixO, r_revL, rInSelf, rCmpA, rBinO, Bool.false_xor, Bool.true_xor, r_starT, r_starL, r_cm, r_cval, selK_t, selK_f, rAppend, rIsK, reduceCtorEq, upd_same, at0, at1, at2, at3, at4, at5, at6, at7, at8, at9, at10, at11, at12, at13, ix3_0, ix3_1, ix3_2, V.int.injEq, V.bl.injEq, V.str.injEq, V.ref.injEq, Option.some.injEq, HO.lst.injEq, HO.tup.injEq, HO.ins.injEq, List.cons.injEq, and_true, true_and, exists_eq_left, exists_eq_left', exists_and_left, exists_eq', exists_eq, and_assoc, N_law_compared_right, lG4]
  intro q5 G5 g5
  have lG5 := g5.old lG4
  refine ⟨l1, ns, rfl, lG5, ⟨by omega, fun x hx => ⟨(isNm_fits (hN x hx)).2.1, by have := (isNm_fits (hN x hx)).1; omega⟩⟩, fun G6 s6 => ?_⟩
  have lG6 := s6 _ _ lG5
  try simp only [cxK, r_lam, r_dnew, r_err, r_base, r_serr, r_var, r_c, r_seq, r_next, r_break, r_cont, r_drop, r_ret, r_retN, r_if, r_ife, r_asg, r_name, r_op, r_un, r_nil, r_cons, r_lst2, r_tup2, r_lc, r_for, r_ilist, r_itup, r_istr, r_irng1, r_irng2, r_ienum, r_ienumS, wipe, r_cb, r_test, r_b, r_not, r_notV, r_andV, r_orV, r_isN, r_notN, r_m1, r_m0, r_fld, sFld, putF, r_par, r_sub, r_gtup, r_gnil, r_gcons, r_sl, r_nopart, r_part, r_bm, r_bm0, r_chain, r_call, r_callK, r_meth, r_prop, r_make, r_and, r_or, andT_t, andT_f, orT_t, orT_f, ifK_t, ifK_f, ifE_t, ifE_f, andK_t, andK_f, orK_t, orK_f, L2.start, List.map_cons, List.map_nil, List.length_cons, List.length_nil, List.replicate_succ, List.replicate_zero, List.cons_append, List.nil_append, List.getElem?_cons_succ, List.getElem?_cons_zero, List.set_cons_succ, List.set_cons_zero, Nat.reduceAdd, Nat.reduceSub, Nat.zero_add, decide_true, decide_false, Bool.not_true, Bool.not_false, if_true, if_false, rEq, rNe, scal_ii, scal_ss, scal_bb, scal_is, scal_si, scal_ns, scal_ni, scal_in, scal_sn, scal_nn, rI, rI0, rU, rIxLH, rIxTH, rLenH, rLenTH, rSetL, rCatN, rTupOfN, rLstOfN, rSlLN, rSlTN, CDiv, CPow, CMul, CDivW, rNeNil, rLenO, rSplitN, rRepN, r_replC, rMulS, r_methK, rRepTN, r_cmK, rCmpO, rInO, r_ixO, r_revL, rInSelf, rCmpA, rBinO, Bool.false_xor, Bool.true_xor, r_starT, r_starL, r_cm, r_cval, selK_t, selK_f, rAppend, rIsK, reduceCtorEq, upd_same, at0, at1, at2, at3, at4, at5, at6, at7, at8, at9, at10, at11, at12, at13, ix3_0, ix3_1, ix3_2, V.int.injEq, V.bl.injEq, V.str.injEq, V.ref.injEq, Option.some.injEq, HO.lst.injEq, HO.tup.injEq, HO.ins.injEq, List.cons.injEq, and_true, true_and, exists_eq_left, exists_eq_left', exists_and_left, exists_eq', exists_eq, and_assoc, N_law_compared_right, lG6]
  refine ⟨fits (by decide), fun q7 G7 g7 => ?_⟩
  have a4 := g7.old (s6 _ _ (g5.old g4.at_))
  have a7 := g7.at_
  try simp only [cxK, r_lam, r_dnew, r_err, r_base, r_serr, r_var, r_c, r_seq, r_next, r_break, r_cont, r_drop, r_ret, r_retN, r_if, r_ife, r_asg, r_name, r_op, r_un, r_nil, r_cons, r_lst2, r_tup2, r_lc, r_for, r_ilist, r_itup, r_istr, r_irng1, r_irng2, r_ienum, r_ienumS, wipe, r_cb, r_test, r_b, r_not, r_notV, r_andV, r_orV, r_isN, r_notN, r_m1, r_m0, r_fld, sFld, putF, r_par, r_sub, r_gtup, r_gnil, r_gcons, r_sl, r_nopart, r_part, r_bm, r_bm0, r_chain, r_call, r_callK, r_meth, r_prop, r_make, r_and, r_or, andT_t, andT_f, orT_t, orT_f, ifK_t, ifK_f, ifE_t, ifE_f, andK_t, andK_f, orK_t, orK_f, L2.start, List.map_cons, List.map_nil, List.length_cons, List.length_nil, List.replicate_succ, List.replicate_zero, List.cons_append, List.nil_append, List.getElem?_cons_succ, List.getElem?_cons_zero, List.set_cons_succ, List.set_cons_zero, Nat.reduceAdd, Nat.reduceSub, Nat.zero_add, decide_true, decide_false, Bool.not_true, Bool.not_false, if_true, if_false, rEq, rNe, scal_ii, scal_ss, scal_bb, scal_is, scal_si, scal_ns, scal_ni, scal_in, scal_sn, scal_nn, rI, rI0, rU, rIxLH, rIxTH, rLenH, rLenTH, rSetL, rCatN, rTupOfN, rLstOfN, rSlLN, rSlTN, CDiv, CPow, CMul, CDivW, rNeNil, rLenO, rSplitN, rRepN, r_replC, rMulS, r_methK, rRepTN, r_cmK, rCmpO, rInO, r_ixO, r_revL, rInSelf, rCmpA, rBinO, Bool.false_xor, Bool.true_xor, r_starT, r_starL, r_cm, r_cval, selK_t, selK_f, rAppend, rIsK, reduceCtorEq, upd_same, at0, at1, at2, at3, at4, at5, at6, at7, at8, at9, at10, at11, at12, at13, ix3_0, ix3_1, ix3_2, V.int.injEq, V.bl.injEq, V.str.injEq, V.ref.injEq, Option.some.injEq, HO.lst.injEq, HO.tup.injEq, HO.ins.injEq, List.cons.injEq, and_true, true_and, exists_eq_left, exists_eq_left', exists_and_left, exists_eq', exists_eq, and_assoc, N_law_compared_right, a4, a7]
  refine ⟨fits (by simp), fun q8 G8 g8 => ⟨⟨_, SqL.of g8.at_⟩, ?_⟩⟩
  have s8 : Same H11 G8 := same_trans sG4 (same_trans g5.same (same_trans s6 (same_trans g7.same g8.same)))
  have hp8 := s8 _ _ hp11
  have b1 := g8.old (g7.old (s6 _ _ (g5.old (g4.old (g3.old (g2.old g1.at_))))))
  have b2 := g8.old (g7.old (s6 _ _ (g5.old (g4.old (g3.old g2.at_)))))
  have b3 := g8.old (g7.old (s6 _ _ (g5.old (g4.old g3.at_))))
  have b5 := g8.old (g7.old (s6 _ _ g5.at_))
  have bl1 := g8.old (g7.old lG6)
  have ho : ∀ v ∈ ([.non, .int 5, .bl true, .ref q1, .ref q2, .ref q3] ++ [.ref q5, .ref l1, .str (textOf ns), .int ((ns.map V.str).length : Nat)] : List V), ∀ G', Same G8 G' → OddP K G' v := by
    intro v hv G' s
    simp only [List.cons_append, List.nil_append, List.mem_cons, List.not_mem_nil, or_false] at hv
    rcases hv with rfl | rfl | rfl | rfl | rfl | rfl | rfl | rfl | rfl | rfl
    · exact ⟨_, .non, (nf_ok (T.c.fact 50 (f := fNf "Path" "NoneType") rfl)), (kit_ok (T.c.fact 51 (f := fKit (fun _ => .type "NoneType") (fun K => .ref (ga K "Path")) false) rfl))⟩
    · exact ⟨_, .int _, (nf_ok (T.c.fact 52 (f := fNf "Path" "int") rfl)), (kit_ok (T.c.fact 53 (f := fKit (fun _ => .type "int") (fun K => .ref (ga K "Path")) false) rfl))⟩
    · exact ⟨_, .bl _, (nf_ok (T.c.fact 54 (f := fNf "Path" "bool") rfl)), (kit_ok (T.c.fact 55 (f := fKit (fun _ => .type "bool") (fun K => .ref (ga K "Path")) false) rfl))⟩
    · exact ⟨_, .dK (s _ _ b1), (nf_ok (T.c.fact 56 (f := fNf "Path" "dict") rfl)), (kit_ok (T.c.fact 57 (f := fKit (fun _ => .type "dict") (fun K => .ref (ga K "Path")) false) rfl))⟩
    · exact ⟨_, .lst (s _ _ b2), (nf_ok (T.c.fact 58 (f := fNf "Path" "list") rfl)), (kit_ok (T.c.fact 59 (f := fKit (fun _ => .type "list") (fun K => .ref (ga K "Path")) false) rfl))⟩
    · exact ⟨_, .tup (s _ _ b3), (nf_ok (T.c.fact 60 (f := fNf "Path" "tuple") rfl)), (kit_ok (T.c.fact 61 (f := fKit (fun _ => .type "tuple") (fun K => .ref (ga K "Path")) false) rfl))⟩
    · exact ⟨_, .tup (s _ _ b5), (nf_ok (T.c.fact 60 (f := fNf "Path" "tuple") rfl)), (kit_ok (T.c.fact 61 (f := fKit (fun _ => .type "tuple") (fun K => .ref (ga K "Path")) false) rfl))⟩
    · exact ⟨_, .lst (s _ _ bl1), (nf_ok (T.c.fact 58 (f := fNf "Path" "list") rfl)), (kit_ok (T.c.fact 59 (f := fKit (fun _ => .type "list") (fun K => .ref (ga K "Path")) false) rfl))⟩
    · exact ⟨_, .str _, (nf_ok (T.c.fact 62 (f := fNf "Path" "str") rfl)), (kit_ok (T.c.fact 63 (f := fKit (fun _ => .type "str") (fun K => .ref (ga K "Path")) false) rfl))⟩
    · exact ⟨_, .int _, (nf_ok (T.c.fact 52 (f := fNf "Path" "int") rfl)), (kit_ok (T.c.fact 53 (f := fKit (fun _ => .type "int") (fun K => .ref (ga K "Path")) false) rfl))⟩
  have g8at := g8.at_
  refine lcK_itT walk_list (OddPv G8) (fun D H0 n0 => ⟨n0.same, rfl⟩) (fun D i acc H1 nD hi hD pv => SqL.of (pv.1 _ _ g8at)) ?_ ?_
  · rintro D i x acc H1 H2 nD hi hD hlen ⟨sm, ea⟩ ⟨rfl, hx⟩
    obtain ⟨ty, tx, nf, kt⟩ := ho x (List.mem_of_getElem? hx) _ sm
    have hpx := sm _ _ hp8
    try simp only [cxK, r_lam, r_dnew, r_err, r_base, r_serr, r_var, r_c, r_seq, r_next, r_break, r_cont, r_drop, r_ret, r_retN, r_if, r_ife, r_asg, r_name, r_op, r_un, r_nil, r_cons, r_lst2, r_tup2, r_lc, r_for, r_ilist, r_itup, r_istr, r_irng1, r_irng2, r_ienum, r_ienumS, wipe, r_cb, r_test, r_b, r_not, r_notV, r_andV, r_orV, r_isN, r_notN, r_m1, r_m0, r_fld, sFld, putF, r_par, r_sub, r_gtup, r_gnil, r_gcons, r_sl, r_nopart, r_part, r_bm, r_bm0, r_chain, r_call, r_callK, r_meth, r_prop, r_make, r_and, r_or, andT_t, andT_f, orT_t, orT_f, ifK_t, ifK_f, ifE_t, ifE_f, andK_t, andK_f, orK_t, orK_f, L2.start, List.map_cons, List.map_nil, List.length_cons, List.length_nil, List.replicate_succ, List.replicate_zero, List.cons_append, List.nil_append, List.getElem?_cons_succ, List.getElem?_cons_zero, List.set_cons_succ, List.set_cons_zero, Nat.reduceAdd, Nat.reduceSub, Nat.zero_add, decide_true, decide_false, Bool.not_true, Bool.not_false, if_true, if_false, rEq, rNe, scal_ii, scal_ss, scal_bb, scal_is, scal_si, scal_ns, scal_ni, scal_in, scal_sn, scal_nn, rI, rI0, rU, rIxLH, rIxTH, rLenH, rLenTH, rSetL, rCatN, rTupOfN, rLstOfN, rSlLN, rSlTN, CDiv, CPow, CMul, CDivW, rNeNil, rLenO, rSplitN, rRepN, r_replC, rMulS, r_methK, rRepTN, r_cmK, rCmpO, rInO, r_ixO, r_revL, rInSelf, rCmpA, rBinO, Bool.false_xor, Bool.true_xor, r_starT, r_starL, r_cm, r_cval, selK_t, selK_f, rAppend, rIsK, reduceCtorEq, upd_same, at0, at1, at2, at3, at4, at5, at6, at7, at8, at9, at10, at11, at12, at13, ix3_0, ix3_1, ix3_2, V.int.injEq, V.bl.injEq, V.str.injEq, V.ref.injEq, Option.some.injEq, HO.lst.injEq, HO.tup.injEq, HO.ins.injEq, List.cons.injEq, and_true, true_and, exists_eq_left, exists_eq_left', exists_and_left, exists_eq', exists_eq, and_assoc, N_law_compared_right, hpx]
    refine ⟨_, .base tx, nf, p, x, ty, rfl, tx, kt, ?_⟩
    try simp only [cxK, r_lam, r_dnew, r_err, r_base, r_serr, r_var, r_c, r_seq, r_next, r_break, r_cont, r_drop, r_ret, r_retN, r_if, r_ife, r_asg, r_name, r_op, r_un, r_nil, r_cons, r_lst2, r_tup2, r_lc, r_for, r_ilist, r_itup, r_istr, r_irng1, r_irng2, r_ienum, r_ienumS, wipe, r_cb, r_test, r_b, r_not, r_notV, r_andV, r_orV, r_isN, r_notN, r_m1, r_m0, r_fld, sFld, putF, r_par, r_sub, r_gtup, r_gnil, r_gcons, r_sl, r_nopart, r_part, r_bm, r_bm0, r_chain, r_call, r_callK, r_meth, r_prop, r_make, r_and, r_or, andT_t, andT_f, orT_t, orT_f, ifK_t, ifK_f, ifE_t, ifE_f, andK_t, andK_f, orK_t, orK_f, L2.start, List.map_cons, List.map_nil, List.length_cons, List.length_nil, List.replicate_succ, List.replicate_zero, List.cons_append, List.nil_append, List.getElem?_cons_succ, List.getElem?_cons_zero, List.set_cons_succ, List.set_cons_zero, Nat.reduceAdd, Nat.reduceSub, Nat.zero_add, decide_true, decide_false, Bool.not_true, Bool.not_false, if_true, if_false, rEq, rNe, scal_ii, scal_ss, scal_bb, scal_is, scal_si, scal_ns, scal_ni, scal_in, scal_sn, scal_nn, rI, rI0, rU, rIxLH, rIxTH, rLenH, rLenTH, rSetL, rCatN, rTupOfN, rLstOfN, rSlLN, rSlTN, CDiv, CPow, CMul, CDivW, rNeNil, rLenO, rSplitN, rRepN, r_replC, rMulS, r_methK, rRepTN, r_cmK, rCmpO, rInO, r_ixO, r_revL, rInSelf, rCmpA, rBinO, Bool.false_xor, Bool.true_xor, r_starT, r_starL, r_cm, r_cval, selK_t, selK_f, rAppend, rIsK, reduceCtorEq, upd_same, at0, at1, at2, at3, at4, at5, at6, at7, at8, at9, at10, at11, at12, at13, ix3_0, ix3_1, ix3_2, V.int.injEq, V.bl.injEq, V.str.injEq, V.ref.injEq, Option.some.injEq, HO.lst.injEq, HO.tup.injEq, HO.ins.injEq, List.cons.injEq, and_true, true_and, exists_eq_left, exists_eq_left', exists_and_left, exists_eq', exists_eq, and_assoc, N_law_compared_right]
    exact ⟨acc, hD, by omega, sm, ea⟩
  · rintro D acc H1 nD hD ⟨sm, ea⟩
    subst ea
    try simp only [cxK, r_lam, r_dnew, r_err, r_base, r_serr, r_var, r_c, r_seq, r_next, r_break, r_cont, r_drop, r_ret, r_retN, r_if, r_ife, r_asg, r_name, r_op, r_un, r_nil, r_cons, r_lst2, r_tup2, r_lc, r_for, r_ilist, r_itup, r_istr, r_irng1, r_irng2, r_ienum, r_ienumS, wipe, r_cb, r_test, r_b, r_not, r_notV, r_andV, r_orV, r_isN, r_notN, r_m1, r_m0, r_fld, sFld, putF, r_par, r_sub, r_gtup, r_gnil, r_gcons, r_sl, r_nopart, r_part, r_bm, r_bm0, r_chain, r_call, r_callK, r_meth, r_prop, r_make, r_and, r_or, andT_t, andT_f, orT_t, orT_f, ifK_t, ifK_f, ifE_t, ifE_f, andK_t, andK_f, orK_t, orK_f, L2.start, List.map_cons, List.map_nil, List.length_cons, List.length_nil, List.replicate_succ, List.replicate_zero, List.cons_append, List.nil_append, List.getElem?_cons_succ, List.getElem?_cons_zero, List.set_cons_succ, List.set_cons_zero, Nat.reduceAdd, Nat.reduceSub, Nat.zero_add, decide_true, decide_false, Bool.not_true, Bool.not_false, if_true, if_false, rEq, rNe, scal_ii, scal_ss, scal_bb, scal_is, scal_si, scal_ns, scal_ni, scal_in, scal_sn, scal_nn, rI, rI0, rU, rIxLH, rIxTH, rLenH, rLenTH, rSetL, rCatN, rTupOfN, rLstOfN, rSlLN, rSlTN, CDiv, CPow, CMul, CDivW, rNeNil, rLenO, rSplitN, rRepN, r_replC, rMulS, r_methK, rRepTN, r_cmK, rCmpO, rInO, r_ixO, r_revL, rInSelf, rCmpA, rBinO, Bool.false_xor, Bool.true_xor, r_starT, r_starL, r_cm, r_cval, selK_t, selK_f, rAppend, rIsK, reduceCtorEq, upd_same, at0, at1, at2, at3, at4, at5, at6, at7, at8, at9, at10, at11, at12, at13, ix3_0, ix3_1, ix3_2, V.int.injEq, V.bl.injEq, V.str.injEq, V.ref.injEq, Option.some.injEq, HO.lst.injEq, HO.tup.injEq, HO.ins.injEq, List.cons.injEq, and_true, true_and, exists_eq_left, exists_eq_left', exists_and_left, exists_eq', exists_eq, and_assoc, N_law_compared_right]
    refine ⟨fits (by decide), fun w1 H2 m1 => ?_⟩
    refine neD_strL (xs := []) (ys := []) (m1.old hD) m1.at_ nofun nofun ?_
    rw [decide_eq_true rfl]
    try simp only [cxK, r_lam, r_dnew, r_err, r_base, r_serr, r_var, r_c, r_seq, r_next, r_break, r_cont, r_drop, r_ret, r_retN, r_if, r_ife, r_asg, r_name, r_op, r_un, r_nil, r_cons, r_lst2, r_tup2, r_lc, r_for, r_ilist, r_itup, r_istr, r_irng1, r_irng2, r_ienum, r_ienumS, wipe, r_cb, r_test, r_b, r_not, r_notV, r_andV, r_orV, r_isN, r_notN, r_m1, r_m0, r_fld, sFld, putF, r_par, r_sub, r_gtup, r_gnil, r_gcons, r_sl, r_nopart, r_part, r_bm, r_bm0, r_chain, r_call, r_callK, r_meth, r_prop, r_make, r_and, r_or, andT_t, andT_f, orT_t, orT_f, ifK_t, ifK_f, ifE_t, ifE_f, andK_t, andK_f, orK_t, orK_f, L2.start, List.map_cons, List.map_nil, List.length_cons, List.length_nil, List.replicate_succ, List.replicate_zero, List.cons_append, List.nil_append, List.getElem?_cons_succ, List.getElem?_cons_zero, List.set_cons_succ, List.set_cons_zero, Nat.reduceAdd, Nat.reduceSub, Nat.zero_add, decide_true, decide_false, Bool.not_true, Bool.not_false, if_true, if_false, rEq, rNe, scal_ii, scal_ss, scal_bb, scal_is, scal_si, scal_ns, scal_ni, scal_in, scal_sn, scal_nn, rI, rI0, rU, rIxLH, rIxTH, rLenH, rLenTH, rSetL, rCatN, rTupOfN, rLstOfN, rSlLN, rSlTN, CDiv, CPow, CMul, CDivW, rNeNil, rLenO, rSplitN, rRepN, r_replC, rMulS, r_methK, rRepTN, r_cmK, rCmpO, rInO, r_ixO, r_revL, rInSelf, rCmpA, rBinO, Bool.false_xor, Bool.true_xor, r_starT, r_starL, r_cm, r_cval, selK_t, selK_f, rAppend, rIsK, reduceCtorEq, upd_same, at0, at1, at2, at3, at4, at5, at6, at7, at8, at9, at10, at11, at12, at13, ix3_0, ix3_1, ix3_2, V.int.injEq, V.bl.injEq, V.str.injEq, V.ref.injEq, Option.some.injEq, HO.lst.injEq, HO.tup.injEq, HO.ins.injEq, List.cons.injEq, and_true, true_and, exists_eq_left, exists_eq_left', exists_and_left, exists_eq', exists_eq, and_assoc, N_law_compared_right]
    refine ⟨⟨_, SqL.of (m1.old (sm _ _ g8at))⟩, ?_⟩
    have s82 := same_trans sm m1.same
    have g82 := s82 _ _ g8at
    refine lcK_itT walk_list (OddPv H2) (fun D H0 n0 => ⟨n0.same, rfl⟩) (fun D i acc H1 nD hi hD pv => SqL.of (pv.1 _ _ g82)) ?_ ?_
    · rintro D i x acc H3 H4 nD hi hD hlen ⟨sm2, ea⟩ ⟨rfl, hx⟩
      obtain ⟨ty, tx, nf, kt⟩ := ho x (List.mem_of_getElem? hx) _ (same_trans s82 sm2)
      have hpx := sm2 _ _ (s82 _ _ hp8)
      try simp only [cxK, r_lam, r_dnew, r_err, r_base, r_serr, r_var, r_c, r_seq, r_next, r_break, r_cont, r_drop, r_ret, r_retN, r_if, r_ife, r_asg, r_name, r_op, r_un, r_nil, r_cons, r_lst2, r_tup2, r_lc, r_for, r_ilist, r_itup, r_istr, r_irng1, r_irng2, r_ienum, r_ienumS, wipe, r_cb, r_test, r_b, r_not, r_notV, r_andV, r_orV, r_isN, r_notN, r_m1, r_m0, r_fld, sFld, putF, r_par, r_sub, r_gtup, r_gnil, r_gcons, r_sl, r_nopart, r_part, r_bm, r_bm0, r_chain, r_call, r_callK, r_meth, r_prop, r_make, r_and, r_or, andT_t, andT_f, orT_t, orT_f, ifK_t, ifK_f, ifE_t, ifE_f, andK_t, andK_f, orK_t, orK_f, L2.start, List.map_cons, List.map_nil, List.length_cons, List.length_nil, List.replicate_succ, List.replicate_zero, List.cons_append, List.nil_append, List.getElem?_cons_succ, List.getElem?_cons_zero, List.set_cons_succ, List.set_cons_zero, Nat.reduceAdd, Nat.reduceSub, Nat.zero_add, decide_true, decide_false, Bool.not_true, Bool.not_false, if_true, if_false, rEq, rNe, scal_ii, scal_ss, scal_bb, scal_is, scal_si, scal_ns, scal_ni, scal_in, scal_sn, scal_nn, rI, rI0, rU, rIxLH, rIxTH, rLenH, rLenTH, rSetL, rCatN, rTupOfN, rLstOfN, rSlLN, rSlTN, CDiv, CPow, CMul, CDivW, rNeNil, rLenO, rSplitN, rRepN, r_replC, rMulS, r_methK, rRepTN, r_cmK, rCmpO, rInO, r_ixO, r_revL, rInSelf, rCmpA, rBinO, Bool.false_xor, Bool.true_xor, r_starT, r_starL, r_cm, r_cval, selK_t, selK_f, rAppend, rIsK, reduceCtorEq, upd_same, at0, at1, at2, at3, at4, at5, at6, at7, at8, at9, at10, at11, at12, at13, ix3_0, ix3_1, ix3_2, V.int.injEq, V.bl.injEq, V.str.injEq, V.ref.injEq, Option.some.injEq, HO.lst.injEq, HO.tup.injEq, HO.ins.injEq, List.cons.injEq, and_true, true_and, exists_eq_left, exists_eq_left', exists_and_left, exists_eq', exists_eq, and_assoc, N_law_compared_right, hpx]
      refine ⟨_, .base tx, nf, p, x, ty, rfl, tx, kt, ?_⟩
      try simp only [cxK, r_lam, r_dnew, r_err, r_base, r_serr, r_var, r_c, r_seq, r_next, r_break, r_cont, r_drop, r_ret, r_retN, r_if, r_ife, r_asg, r_name, r_op, r_un, r_nil, r_cons, r_lst2, r_tup2, r_lc, r_for, r_ilist, r_itup, r_istr, r_irng1, r_irng2, r_ienum, r_ienumS, wipe, r_cb, r_test, r_b, r_not, r_notV, r_andV, r_orV, r_isN, r_notN, r_m1, r_m0, r_fld, sFld, putF, r_par, r_sub, r_gtup, r_gnil, r_gcons, r_sl, r_nopart, r_part, r_bm, r_bm0, r_chain, r_call, r_callK, r_meth, r_prop, r_make, r_and, r_or, andT_t, andT_f, orT_t, orT_f, ifK_t, ifK_f, ifE_t, ifE_f, andK_t, andK_f, orK_t, orK_f, L2.start, List.map_cons, List.map_nil, List.length_cons, List.length_nil, List.replicate_succ, List.replicate_zero, List.cons_append, List.nil_append, List.getElem?_cons_succ, List.getElem?_cons_zero, List.set_cons_succ, List.set_cons_zero, Nat.reduceAdd, Nat.reduceSub, Nat.zero_add, decide_true, decide_false, Bool.not_true, Bool.not_false, if_true, if_false, rEq, rNe, scal_ii, scal_ss, scal_bb, scal_is, scal_si, scal_ns, scal_ni, scal_in, scal_sn, scal_nn, rI, rI0, rU, rIxLH, rIxTH, rLenH, rLenTH, rSetL, rCatN, rTupOfN, rLstOfN, rSlLN, rSlTN, CDiv, CPow, CMul, CDivW, rNeNil, rLenO, rSplitN, rRepN, r_replC, rMulS, r_methK, rRepTN, r_cmK, rCmpO, rInO, r_ixO, r_revL, rInSelf, rCmpA, rBinO, Bool.false_xor, Bool.true_xor, r_starT, r_starL, r_cm, r_cval, selK_t, selK_f, rAppend, rIsK, reduceCtorEq, upd_same, at0, at1, at2, at3, at4, at5, at6, at7, at8, at9, at10, at11, at12, at13, ix3_0, ix3_1, ix3_2, V.int.injEq, V.bl.injEq, V.str.injEq, V.ref.injEq, Option.some.injEq, HO.lst.injEq, HO.tup.injEq, HO.ins.injEq, List.cons.injEq, and_true, true_and, exists_eq_left, exists_eq_left', exists_and_left, exists_eq', exists_eq, and_assoc, N_law_compared_right]
      exact ⟨acc, hD, by omega, sm2, ea⟩
    · rintro D acc H3 nD hD ⟨sm2, ea⟩
      subst ea
      try simp only [cxK, r_lam, r_dnew, r_err, r_base, r_serr, r_var, r_c, r_seq, r_next, r_break, r_cont, r_drop, r_ret, r_retN, r_if, r_ife, r_asg, r_name, r_op, r_un, r_nil, r_cons, r_lst2, r_tup2, r_lc, r_for, r_ilist, r_itup, r_istr, r_irng1, r_irng2, r_ienum, r_ienumS, wipe, r_cb, r_test, r_b, r_not, r_notV, r_andV, r_orV, r_isN, r_notN, r_m1, r_m0, r_fld, sFld, putF, r_par, r_sub, r_gtup, r_gnil, r_gcons, r_sl, r_nopart, r_part, r_bm, r_bm0, r_chain, r_call, r_callK, r_meth, r_prop, r_make, r_and, r_or, andT_t, andT_f, orT_t, orT_f, ifK_t, ifK_f, ifE_t, ifE_f, andK_t, andK_f, orK_t, orK_f, L2.start, List.map_cons, List.map_nil, List.length_cons, List.length_nil, List.replicate_succ, List.replicate_zero, List.cons_append, List.nil_append, List.getElem?_cons_succ, List.getElem?_cons_zero, List.set_cons_succ, List.set_cons_zero, Nat.reduceAdd, Nat.reduceSub, Nat.zero_add, decide_true, decide_false, Bool.not_true, Bool.not_false, if_true, if_false, rEq, rNe, scal_ii, scal_ss, scal_bb, scal_is, scal_si, scal_ns, scal_ni, scal_in, scal_sn, scal_nn, rI, rI0, rU, rIxLH, rIxTH, rLenH, rLenTH, rSetL, rCatN, rTupOfN, rLstOfN, rSlLN, rSlTN, CDiv, CPow, CMul, CDivW, rNeNil, rLenO, rSplitN, rRepN, r_replC, rMulS, r_methK, rRepTN, r_cmK, rCmpO, rInO, r_ixO, r_revL, rInSelf, rCmpA, rBinO, Bool.false_xor, Bool.true_xor, r_starT, r_starL, r_cm, r_cval, selK_t, selK_f, rAppend, rIsK, reduceCtorEq, upd_same, at0, at1, at2, at3, at4, at5, at6, at7, at8, at9, at10, at11, at12, at13, ix3_0, ix3_1, ix3_2, V.int.injEq, V.bl.injEq, V.str.injEq, V.ref.injEq, Option.some.injEq, HO.lst.injEq, HO.tup.injEq, HO.ins.injEq, List.cons.injEq, and_true, true_and, exists_eq_left, exists_eq_left', exists_and_left, exists_eq', exists_eq, and_assoc, N_law_compared_right]
      refine ⟨fits (by decide), fun w2 H4 m2 => ?_⟩
      refine eqD_strL (xs := []) (ys := []) (m2.old hD) m2.at_ nofun nofun ?_
      rw [decide_eq_true rfl]
      exact q H4 (same_trans s03 (same_trans s311 (same_trans s8 (same_trans s82 (same_trans sm2 m2.same)))))
theorem ifK_gen {t u : TS} {D : Ends} {σ : L2.St} {b : Bool} {H : Hp} (P : L2.St → Hp → Prop) (h : ∀ N : L2.St → Hp → Prop, (∀ σ' H', P σ' H' → N σ' H') → ifK t u { D with nx := N } σ b H) (k : ∀ σ' H', P σ' H' → D.nx σ' H') : ifK t u D σ b H := h D.nx k
theorem NoInt.oth {H H' : Hp} {v : V} {a : Addr} (h : NoInt H v) (s : Oth a H H') (n : v ≠ .ref a) : NoInt H' v := by
  rcases h with h | h | h | ⟨p, xs, rfl, h⟩
  · exact .inl h
  · exact .inr (.inl h)
  · exact .inr (.inr (.inl h))
  · have np : p ≠ a := fun e => n (by rw [e])
    rcases h with h | h | ⟨kvs, h⟩
    · exact .inr (.inr (.inr ⟨p, xs, rfl, .inl (s _ _ np h)⟩))
    · exact .inr (.inr (.inr ⟨p, xs, rfl, .inr (.inl (s _ _ np h))⟩))
    · exact .inr (.inr (.inr ⟨p, xs, rfl, .inr (.inr ⟨kvs, s _ _ np h⟩)⟩))
theorem NoInt.extN {H H' : Hp} {v : V} (h : NoInt H v) (s : LamX.ExtN H H') : NoInt H' v := by
  rcases h with h | h | h | ⟨p, xs, rfl, h⟩
  · exact .inl h
  · exact .inr (.inl h)
  · exact .inr (.inr (.inl h))
  · rcases h with h | h | ⟨kvs, h⟩
    · exact .inr (.inr (.inr ⟨p, xs, rfl, .inl (s _ _ h nofun)⟩))
    · exact .inr (.inr (.inr ⟨p, xs, rfl, .inr (.inl (s _ _ h nofun))⟩))
    · exact .inr (.inr (.inr ⟨p, xs, rfl, .inr (.inr ⟨kvs, s _ _ h nofun⟩)⟩))
/-- no number of a name among n -/
def OutV (n : Nat) (H : Hp) (v : V) : Prop := ∃ r, IntV H v r ∧ ∀ i, r = some i → ¬ (0 ≤ i ∧ i < (n : Int))
theorem OutV.oth {n : Nat} {H H' : Hp} {v : V} {a : Addr} (h : OutV n H v) (s : Oth a H H') (k : v ≠ .ref a) : OutV n H' v := by
  obtain ⟨r, h, g⟩ := h
  rcases h with h | ⟨h, e⟩
  · exact ⟨r, .inl h, g⟩
  · exact ⟨r, .inr ⟨h.oth s k, e⟩, g⟩
theorem OutV.extN {n : Nat} {H H' : Hp} {v : V} (h : OutV n H v) (s : LamX.ExtN H H') : OutV n H' v := by
  obtain ⟨r, h, g⟩ := h
  rcases h with h | ⟨h, e⟩
  · exact ⟨r, .inl h, g⟩
  · exact ⟨r, .inr ⟨h.extN s, e⟩, g⟩
def spRead (K : PySem.W.Frag) : Sp := fun vs H Q _ => ∃ (a l : Addr) (ns : List Str) (j : Int), vs = [.ref a, .ref l] ∧ Src H a j ∧ j < 100000000000 ∧ H l = some (.lst (ns.map V.str)) ∧ ns.length ≤ 12 ∧ (∀ x ∈ ns, isNm x = true) ∧ LamX.Tabs (TL lm K) H ∧
  ∀ (j' : Int) (H' : Hp), j ≤ j' → j' ≤ j + 3 → OthN a H H' → LamX.Tabs (TL lm K) H' → Src H' a j' → Q (.bl true) H'
theorem ok_law_read_right (T : Tx fa fn K mg) (B : Tb lm K mg base) (dn : (lm.map fun d => tabX K d).Nodup) : Fn true P w K mg base 10 (aG "_law_read_right" K) [] (spRead K) := by
  obtain ⟨fd, F⟩ := F_law_read_right T
  refine fn_code F sc_law_read_right (fun vs H Q E h => ?_) (b_law_read_right F) (fun A outer s H vs Q E hr h => ⟨_, (pss_cons (ps_set (i := 5) sc_law_read_right.nd rfl (Or.inr rfl) (pe_fn (ok_law_path_of_rowN T) (hr.mono (by decide)) rfl (g_law_path_of_row T) (k_law_path_of_row T) passD (pa_cons (pv 1) pa_nil)))
 (pss_cons (ps_if (PW.pt (pw_or (pt_cmpR (op_neD hr.r.units) (pe_lc (own := [("_law_n", 6)]) (g := gName 6) (tt := tYes) rfl sc_law_read_right.nd (pi_range1 (by rfl) (T.free (T.c.fact 16 (f := fFree "range") rfl)) (pa_cons (pe_callB (call_lenO (cls_ok (T.c.fact 14 (f := fCls "Path") rfl)) (meth_ok (T.c.fact 67 (f := fMeth "Path" "__len__") rfl)) (ok_Path_len T) (hr.mono (by decide)) passD) (by rfl) (T.free (T.c.fact 0 (f := fFree "len") rfl)) (by decide +kernel) (pa_cons (pv 5) pa_nil)) pa_nil)) (blkOk_by (own := [("_law_n", 6)]) (N := N_law_read_right) (sc := defScope s_law_read_right) (by decide +kernel)) (fun _ _ _ _ _ => (pg_name (i := 6) sc_law_read_right.nd rfl (Or.inl rfl))) (fun _ _ _ _ _ => pts_nil) (fun _ _ _ _ _ => (pe_ixO (meth_ok (T.c.fact 65 (f := fMeth "Path" "__getitem__") rfl)) (fnM_ok (T.c.fact 66 (f := fFnM "Path" "__getitem__") rfl)) (ok_Path_getitem T) (hr.mono (by decide)) passL (pv 5) (pv 6)))) (pv 1) (nomark _)) (pw_or1 (pt_cmpR op_ne (pe_callB (call_lenO (cls_ok (T.c.fact 14 (f := fCls "Path") rfl)) (meth_ok (T.c.fact 67 (f := fMeth "Path" "__len__") rfl)) (ok_Path_len T) (hr.mono (by decide)) passD) (by rfl) (T.free (T.c.fact 0 (f := fFree "len") rfl)) (by decide +kernel) (pa_cons (pv 5) pa_nil)) (pe_callB call_len_lh (by rfl) (T.free (T.c.fact 0 (f := fFree "len") rfl)) (by decide +kernel) (pa_cons (pv 1) pa_nil)) (nomark _)))))
 (pss_one (ps_ret pe_bl))
 pss_nil)
 (pss_cons (ps_set (i := 4) sc_law_read_right.nd rfl (Or.inr rfl) (pe_fn (ok_law_pick T) (hr.mono (by decide)) rfl (g_law_pick T) (k_law_pick T) passD (pa_cons (pv 0) (pa_cons (pe_lst (pa_cons (pe_callB call_len_lh (by rfl) (T.free (T.c.fact 0 (f := fFree "len") rfl)) (by decide +kernel) (pa_cons (pv 1) pa_nil)) (pa_cons (pe_un un_neg pe_int) (pa_cons pe_bl (pa_cons pe_non (pa_cons pe_str (pa_cons (pe_tup (pa_cons pe_int pa_nil)) (pa_cons (pe_lst (pa_cons pe_int pa_nil)) (pa_cons pe_dnewK (pa_cons (pe_op op_pow pe_int pe_int) (pa_cons pe_bl (pa_cons pe_str pa_nil)))))))))))) pa_nil))))
 (pss_cons (ps_if (pt_cmpR op_ne (pe_inv (k := 5) T B dn (d := d_law_read_right) (by simp [lm]) rfl rfl rfl (hr.r.mono (by decide)) (LamX.lamS_by (sc := defScope s_law_read_right) (by decide +kernel)) rfl (fun _ _ _ _ _ => rfl) (fun A outer s H E f c hr0 => (have hr := (Rm.mk hr0 (fun e => nomatch e) : Rm false _ _); (pe_ixO (meth_ok (T.c.fact 65 (f := fMeth "Path" "__getitem__") rfl)) (fnM_ok (T.c.fact 66 (f := fFnM "Path" "__getitem__") rfl)) (ok_Path_getitem T) (hr.mono (by decide)) passLam (pv 5) (pv 4))))) pe_str (nomark _))
 (pss_one (ps_ret pe_bl))
 pss_nil)
 (pss_cons (ps_set (i := 2) sc_law_read_right.nd rfl (Or.inl rfl) (pe_fn (ok_law_good_name T) (hr.mono (by decide)) rfl (g_law_good_name T) (k_law_good_name T) passD (pa_cons (pv 0) pa_nil)))
 (pss_cons (ps_set (i := 3) sc_law_read_right.nd rfl (Or.inl rfl) (pe_lst (pa_cons (pe_cmpR (op_inO (meth_ok (T.c.fact 64 (f := fMeth "Path" "__contains__") rfl)) (ok_Path_contains T) (hr.mono (by decide)) passD) (pv 2) (pv 5) rfl) (pa_cons (pe_cmpR (op_notInO (meth_ok (T.c.fact 64 (f := fMeth "Path" "__contains__") rfl)) (ok_Path_contains T) (hr.mono (by decide)) passD) (pv 2) (pv 5) rfl) (pa_cons (pe_cmpR op_in_self (pv 5) (pe_lst (pa_cons (pv 5) pa_nil)) rfl) pa_nil)))))
 (pss_cons (ps_set (i := 3) sc_law_read_right.nd rfl (Or.inl rfl) (pe_op op_cat_n (pv 3) (pe_lst (pa_cons (pe_cmpR (op_inO (meth_ok (T.c.fact 64 (f := fMeth "Path" "__contains__") rfl)) (ok_Path_contains T) (hr.mono (by decide)) passD) (pe_fn (ok_law_bad_name T) (hr.mono (by decide)) rfl (g_law_bad_name T) (k_law_bad_name T) passD (pa_cons (pv 0) pa_nil)) (pv 5) rfl) (pa_cons (pe_cmpR (op_inO (meth_ok (T.c.fact 64 (f := fMeth "Path" "__contains__") rfl)) (ok_Path_contains T) (hr.mono (by decide)) passD) (pe_callTy call_tuple_n (by rfl) (T.free (T.c.fact 46 (f := fFree "tuple") rfl)) (by decide +kernel) (pa_cons (pv 1) pa_nil)) (pv 5) rfl) pa_nil)))))
 (pss_one (ps_ret (pe_cmpR op_eq (pe_callB (call_repr hr) (by rfl) (T.free (T.c.fact 49 (f := fFree "repr") rfl)) (by decide +kernel) (pa_cons (pv 3) pa_nil)) (pe_callB (call_repr hr) (by rfl) (T.free (T.c.fact 49 (f := fFree "repr") rfl)) (by decide +kernel) (pa_cons (pe_lst (pa_cons (pe_cmpR op_in_seq (pv 2) (pv 1) rfl) (pa_cons (pe_cmpR op_notIn_seq (pv 2) (pv 1) rfl) (pa_cons pe_bl (pa_cons pe_bl (pa_cons pe_bl pa_nil)))))) pa_nil)) (nomark _))))))))))), ?_⟩)
  · first | (obtain ⟨_, e, _⟩ := h; subst e; rfl) | (obtain ⟨_, _, e, _⟩ := h; subst e; rfl) | (obtain ⟨_, _, _, e, _⟩ := h; subst e; rfl) | (obtain ⟨_, _, _, _, e, _⟩ := h; subst e; rfl) | (obtain ⟨_, _, _, _, _, e, _⟩ := h; subst e; rfl) | (obtain ⟨_, _, _, _, _, _, e, _⟩ := h; subst e; rfl) | (obtain ⟨_, _, _, _, _, _, _, e, _⟩ := h; subst e; rfl) | (obtain ⟨_, _, _, _, _, _, _, _, e, _⟩ := h; subst e; rfl) | (obtain ⟨_, _, _, _, _, _, _, _, _, e, _⟩ := h; subst e; rfl) | (obtain ⟨_, _, _, _, _, _, _, _, _, _, e, _⟩ := h; subst e; rfl) | (obtain ⟨_, _, _, _, _, _, _, _, _, _, _, e, _⟩ := h; subst e; rfl)
  obtain ⟨a, l, ns, j, rfl, hs, j1, hl, n12, hN, ht, q⟩ := h
  have la := src_ne hs hl
  try simp only [cxK, r_lam, r_dnew, r_err, r_base, r_serr, r_var, r_c, r_seq, r_next, r_break, r_cont, r_drop, r_ret, r_retN, r_if, r_ife, r_asg, r_name, r_op, r_un, r_nil, r_cons, r_lst2, r_tup2, r_lc, r_for, r_ilist, r_itup, r_istr, r_irng1, r_irng2, r_ienum, r_ienumS, wipe, r_cb, r_test, r_b, r_not, r_notV, r_andV, r_orV, r_isN, r_notN, r_m1, r_m0, r_fld, sFld, putF, r_par, r_sub, r_gtup, r_gnil, r_gcons, r_sl, r_nopart, r_part, r_bm, r_bm0, r_chain, r_call, r_callK, r_meth, r_prop, r_make, r_and, r_or, andT_t, andT_f, orT_t, orT_f, ifK_t, ifK_f, ifE_t, ifE_f, andK_t, andK_f, orK_t, orK_f, L2.start, List.map_cons, List.map_nil, List.length_cons, List.length_nil, List.replicate_succ, List.replicate_zero, List.cons_append, List.nil_append, List.getElem?_cons_succ, List.getElem?_cons_zero, List.set_cons_succ, List.set_cons_zero, Nat.reduceAdd, Nat.reduceSub, Nat.zero_add, decide_true, decide_false, Bool.not_true, Bool.not_false, if_true, if_false, rEq, rNe, scal_ii, scal_ss, scal_bb, scal_is, scal_si, scal_ns, scal_ni, scal_in, scal_sn, scal_nn, rI, rI0, rU, rIxLH, rIxTH, rLenH, rLenTH, rSetL, rCatN, rTupOfN, rLstOfN, rSlLN, rSlTN, CDiv, CPow, CMul, CDivW, rNeNil, rLenO, rSplitN, rRepN, r_replC, rMulS, r_methK, rRepTN, r_cmK, rCmpO, rInO, r_ixO, r_revL, rInSelf, rCmpA, rBinO, Bool.false_xor, Bool.true_xor, r_starT, r_starL, r_cm, r_cval, selK_t, selK_f, rAppend, rIsK, reduceCtorEq, upd_same, at0, at1, at2, at3, at4, at5, at6, at7, at8, at9, at10, at11, at12, at13, ix3_0, ix3_1, ix3_2, V.int.injEq, V.bl.injEq, V.str.injEq, V.ref.injEq, Option.some.injEq, HO.lst.injEq, HO.tup.injEq, HO.ins.injEq, List.cons.injEq, and_true, true_and, exists_eq_left, exists_eq_left', exists_and_left, exists_eq', exists_eq, and_assoc, N_law_read_right]
  refine ⟨l, ns, rfl, hl, n12, hN, fun p H1 s1 hp => ?_⟩
  obtain ⟨dx, t, hp1, hp2⟩ := hp
  have hl1 := s1 _ _ hl
  try simp only [cxK, r_lam, r_dnew, r_err, r_base, r_serr, r_var, r_c, r_seq, r_next, r_break, r_cont, r_drop, r_ret, r_retN, r_if, r_ife, r_asg, r_name, r_op, r_un, r_nil, r_cons, r_lst2, r_tup2, r_lc, r_for, r_ilist, r_itup, r_istr, r_irng1, r_irng2, r_ienum, r_ienumS, wipe, r_cb, r_test, r_b, r_not, r_notV, r_andV, r_orV, r_isN, r_notN, r_m1, r_m0, r_fld, sFld, putF, r_par, r_sub, r_gtup, r_gnil, r_gcons, r_sl, r_nopart, r_part, r_bm, r_bm0, r_chain, r_call, r_callK, r_meth, r_prop, r_make, r_and, r_or, andT_t, andT_f, orT_t, orT_f, ifK_t, ifK_f, ifE_t, ifE_f, andK_t, andK_f, orK_t, orK_f, L2.start, List.map_cons, List.map_nil, List.length_cons, List.length_nil, List.replicate_succ, List.replicate_zero, List.cons_append, List.nil_append, List.getElem?_cons_succ, List.getElem?_cons_zero, List.set_cons_succ, List.set_cons_zero, Nat.reduceAdd, Nat.reduceSub, Nat.zero_add, decide_true, decide_false, Bool.not_true, Bool.not_false, if_true, if_false, rEq, rNe, scal_ii, scal_ss, scal_bb, scal_is, scal_si, scal_ns, scal_ni, scal_in, scal_sn, scal_nn, rI, rI0, rU, rIxLH, rIxTH, rLenH, rLenTH, rSetL, rCatN, rTupOfN, rLstOfN, rSlLN, rSlTN, CDiv, CPow, CMul, CDivW, rNeNil, rLenO, rSplitN, rRepN, r_replC, rMulS, r_methK, rRepTN, r_cmK, rCmpO, rInO, r_ixO, r_revL, rInSelf, rCmpA, rBinO, Bool.false_xor, Bool.true_xor, r_starT, r_starL, r_cm, r_cval, selK_t, selK_f, rAppend, rIsK, reduceCtorEq, upd_same, at0, at1, at2, at3, at4, at5, at6, at7, at8, at9, at10, at11, at12, at13, ix3_0, ix3_1, ix3_2, V.int.injEq, V.bl.injEq, V.str.injEq, V.ref.injEq, Option.some.injEq, HO.lst.injEq, HO.tup.injEq, HO.ins.injEq, List.cons.injEq, and_true, true_and, exists_eq_left, exists_eq_left', exists_and_left, exists_eq', exists_eq, and_assoc, N_law_read_right, hp1]
  refine ⟨p, _, rfl, ⟨dx, t, hp1, hp2⟩, _, rfl, by omega, by simp; omega, by omega, by simp; omega, ?_⟩
  refine lcK_rng (fun D i acc H' => Same H1 H' ∧ acc = (ns.map V.str).take i) (fun D H0 n0 => ⟨n0.same, rfl⟩) ?_ ?_
  · rintro D i acc H2 nD hi hD hlen ⟨sm, ea⟩
    have hpp := sm _ _ hp1
    have hi2 : i < ns.length := by
      have h0 : i < ((ns.map V.str).length : Int).toNat := hi
      simpa using h0
    try simp only [cxK, r_lam, r_dnew, r_err, r_base, r_serr, r_var, r_c, r_seq, r_next, r_break, r_cont, r_drop, r_ret, r_retN, r_if, r_ife, r_asg, r_name, r_op, r_un, r_nil, r_cons, r_lst2, r_tup2, r_lc, r_for, r_ilist, r_itup, r_istr, r_irng1, r_irng2, r_ienum, r_ienumS, wipe, r_cb, r_test, r_b, r_not, r_notV, r_andV, r_orV, r_isN, r_notN, r_m1, r_m0, r_fld, sFld, putF, r_par, r_sub, r_gtup, r_gnil, r_gcons, r_sl, r_nopart, r_part, r_bm, r_bm0, r_chain, r_call, r_callK, r_meth, r_prop, r_make, r_and, r_or, andT_t, andT_f, orT_t, orT_f, ifK_t, ifK_f, ifE_t, ifE_f, andK_t, andK_f, orK_t, orK_f, L2.start, List.map_cons, List.map_nil, List.length_cons, List.length_nil, List.replicate_succ, List.replicate_zero, List.cons_append, List.nil_append, List.getElem?_cons_succ, List.getElem?_cons_zero, List.set_cons_succ, List.set_cons_zero, Nat.reduceAdd, Nat.reduceSub, Nat.zero_add, decide_true, decide_false, Bool.not_true, Bool.not_false, if_true, if_false, rEq, rNe, scal_ii, scal_ss, scal_bb, scal_is, scal_si, scal_ns, scal_ni, scal_in, scal_sn, scal_nn, rI, rI0, rU, rIxLH, rIxTH, rLenH, rLenTH, rSetL, rCatN, rTupOfN, rLstOfN, rSlLN, rSlTN, CDiv, CPow, CMul, CDivW, rNeNil, rLenO, rSplitN, rRepN, r_replC, rMulS, r_methK, rRepTN, r_cmK, rCmpO, rInO, r_ixO, r_revL, rInSelf, rCmpA, rBinO, Bool.false_xor, Bool.true_xor, r_starT, r_starL, r_cm, r_cval, selK_t, selK_f, rAppend, rIsK, reduceCtorEq, upd_same, at0, at1, at2, at3, at4, at5, at6, at7, at8, at9, at10, at11, at12, at13, ix3_0, ix3_1, ix3_2, V.int.injEq, V.bl.injEq, V.str.injEq, V.ref.injEq, Option.some.injEq, HO.lst.injEq, HO.tup.injEq, HO.ins.injEq, List.cons.injEq, and_true, true_and, exists_eq_left, exists_eq_left', exists_and_left, exists_eq', exists_eq, and_assoc, N_law_read_right, hpp]
    refine ⟨p, ns, _, some (0 + (i : Int)), rfl, ⟨dx, t, hpp, sm _ _ hp2⟩, by omega, .inl ⟨_, rfl, rfl⟩, fun m z e hz => ?_, fun d fs H3 no => ?_⟩
    · have em : m = i := by
        have := Option.some.inj e
        omega
      subst em
      refine addK_mk hD hlen (by omega) ⟨same_upd nD sm, ?_⟩
      rw [ea, List.take_add_one, List.getElem?_map, hz]
      rfl
    · exact absurd ⟨by omega, by omega⟩ (no _ rfl)
  · rintro D acc H2 nD hD hlen ⟨sm, ea⟩
    have ea2 : acc = ns.map V.str := by
      rw [ea, List.take_of_length_le (by simp)]
    rw [ea2] at hD
    have hl2 := sm _ _ hl1
    have okN : ∀ x ∈ ns, PyData.strOk x = true := fun x hx => (isNm_fits (hN x hx)).2.1
    refine neD_strL hD hl2 okN okN ?_
    rw [decide_eq_true rfl]
    have hpp := sm _ _ hp1
    try simp only [cxK, r_lam, r_dnew, r_err, r_base, r_serr, r_var, r_c, r_seq, r_next, r_break, r_cont, r_drop, r_ret, r_retN, r_if, r_ife, r_asg, r_name, r_op, r_un, r_nil, r_cons, r_lst2, r_tup2, r_lc, r_for, r_ilist, r_itup, r_istr, r_irng1, r_irng2, r_ienum, r_ienumS, wipe, r_cb, r_test, r_b, r_not, r_notV, r_andV, r_orV, r_isN, r_notN, r_m1, r_m0, r_fld, sFld, putF, r_par, r_sub, r_gtup, r_gnil, r_gcons, r_sl, r_nopart, r_part, r_bm, r_bm0, r_chain, r_call, r_callK, r_meth, r_prop, r_make, r_and, r_or, andT_t, andT_f, orT_t, orT_f, ifK_t, ifK_f, ifE_t, ifE_f, andK_t, andK_f, orK_t, orK_f, L2.start, List.map_cons, List.map_nil, List.length_cons, List.length_nil, List.replicate_succ, List.replicate_zero, List.cons_append, List.nil_append, List.getElem?_cons_succ, List.getElem?_cons_zero, List.set_cons_succ, List.set_cons_zero, Nat.reduceAdd, Nat.reduceSub, Nat.zero_add, decide_true, decide_false, Bool.not_true, Bool.not_false, if_true, if_false, rEq, rNe, scal_ii, scal_ss, scal_bb, scal_is, scal_si, scal_ns, scal_ni, scal_in, scal_sn, scal_nn, rI, rI0, rU, rIxLH, rIxTH, rLenH, rLenTH, rSetL, rCatN, rTupOfN, rLstOfN, rSlLN, rSlTN, CDiv, CPow, CMul, CDivW, rNeNil, rLenO, rSplitN, rRepN, r_replC, rMulS, r_methK, rRepTN, r_cmK, rCmpO, rInO, r_ixO, r_revL, rInSelf, rCmpA, rBinO, Bool.false_xor, Bool.true_xor, r_starT, r_starL, r_cm, r_cval, selK_t, selK_f, rAppend, rIsK, reduceCtorEq, upd_same, at0, at1, at2, at3, at4, at5, at6, at7, at8, at9, at10, at11, at12, at13, ix3_0, ix3_1, ix3_2, V.int.injEq, V.bl.injEq, V.str.injEq, V.ref.injEq, Option.some.injEq, HO.lst.injEq, HO.tup.injEq, HO.ins.injEq, List.cons.injEq, and_true, true_and, exists_eq_left, exists_eq_left', exists_and_left, exists_eq', exists_eq, and_assoc, N_law_read_right, hpp, hl2]
    refine ⟨p, _, rfl, ⟨dx, t, hpp, sm _ _ hp2⟩, ?_⟩
    try simp only [cxK, r_lam, r_dnew, r_err, r_base, r_serr, r_var, r_c, r_seq, r_next, r_break, r_cont, r_drop, r_ret, r_retN, r_if, r_ife, r_asg, r_name, r_op, r_un, r_nil, r_cons, r_lst2, r_tup2, r_lc, r_for, r_ilist, r_itup, r_istr, r_irng1, r_irng2, r_ienum, r_ienumS, wipe, r_cb, r_test, r_b, r_not, r_notV, r_andV, r_orV, r_isN, r_notN, r_m1, r_m0, r_fld, sFld, putF, r_par, r_sub, r_gtup, r_gnil, r_gcons, r_sl, r_nopart, r_part, r_bm, r_bm0, r_chain, r_call, r_callK, r_meth, r_prop, r_make, r_and, r_or, andT_t, andT_f, orT_t, orT_f, ifK_t, ifK_f, ifE_t, ifE_f, andK_t, andK_f, orK_t, orK_f, L2.start, List.map_cons, List.map_nil, List.length_cons, List.length_nil, List.replicate_succ, List.replicate_zero, List.cons_append, List.nil_append, List.getElem?_cons_succ, List.getElem?_cons_zero, List.set_cons_succ, List.set_cons_zero, Nat.reduceAdd, Nat.reduceSub, Nat.zero_add, decide_true, decide_false, Bool.not_true, Bool.not_false, if_true, if_false, rEq, rNe, scal_ii, scal_ss, scal_bb, scal_is, scal_si, scal_ns, scal_ni, scal_in, scal_sn, scal_nn, rI, rI0, rU, rIxLH, rIxTH, rLenH, rLenTH, rSetL, rCatN, rTupOfN, rLstOfN, rSlLN, rSlTN, CDiv, CPow, CMul, CDivW, rNeNil, rLenO, rSplitN, rRepN, r_replC, rMulS, r_methK, rRepTN, r_cmK, rCmpO, rInO, r_ixO, r_revL, rInSelf, rCmpA, rBinO, Bool.false_xor, Bool.true_xor, r_starT, r_starL, r_cm, r_cval, selK_t, selK_f, rAppend, rIsK, reduceCtorEq, upd_same, at0, at1, at2, at3, at4, at5, at6, at7, at8, at9, at10, at11, at12, at13, ix3_0, ix3_1, ix3_2, V.int.injEq, V.bl.injEq, V.str.injEq, V.ref.injEq, Option.some.injEq, HO.lst.injEq, HO.tup.injEq, HO.ins.injEq, List.cons.injEq, and_true, true_and, exists_eq_left, exists_eq_left', exists_and_left, exists_eq', exists_eq, and_assoc, N_law_read_right, hl2]
    refine ⟨by omega, by simp; omega, fits (by decide), fun r1 G1 g1 => ⟨fits (by decide), fun r2 G2 g2 => fun r3 G3 g3 => ⟨by decide, by decide, by decide, fits (by decide), fun r4 G4 g4 => ?_⟩⟩⟩
    have s12 := same_trans s1 sm
    have sG4 := same_trans g1.same (same_trans g2.same (same_trans g3.same g4.same))
    have s04 := same_trans s12 sG4
    have hs2 := hs.same s12
    have hs4 := hs.same s04
    have ne1 : r1 ≠ a := fun e => hs2.ne g1.1 e.symm
    have ne2 : r2 ≠ a := fun e => (hs2.same g1.same).ne g2.1 e.symm
    have ne3 : r3 ≠ a := fun e => (hs2.same (same_trans g1.same g2.same)).ne g3.1 e.symm
    have ne4 : r4 ≠ a := fun e => (hs2.same (same_trans g1.same (same_trans g2.same g3.same))).ne g4.1 e.symm
    have a1 := g4.old (g3.old (g2.old g1.at_))
    have a2 := g4.old (g3.old g2.at_)
    have a3 := g4.old g3.at_
    have out : ∀ v ∈ ([.int ((ns.map V.str).length : Nat), .int (-1), .bl true, .non, .str "0", .ref r1, .ref r2, .ref r3, .int (10 ^ Int.toNat 30), .bl false, .str "a"] : List V), OutV ns.length G4 v ∧ v ≠ .ref a := by
      intro v hv
      simp only [List.mem_cons, List.not_mem_nil, or_false] at hv
      have big : (10 : Int) ^ Int.toNat 30 = 1000000000000000000000000000000 := by decide +kernel
      rcases hv with rfl | rfl | rfl | rfl | rfl | rfl | rfl | rfl | rfl | rfl | rfl
      · exact ⟨⟨_, .inl ⟨_, rfl, rfl⟩, fun i e => by cases e; simp⟩, nofun⟩
      · exact ⟨⟨_, .inl ⟨_, rfl, rfl⟩, fun i e => by cases e; omega⟩, nofun⟩
      · exact ⟨⟨_, .inr ⟨.inr (.inl ⟨_, rfl⟩), rfl⟩, nofun⟩, nofun⟩
      · exact ⟨⟨_, .inr ⟨.inl rfl, rfl⟩, nofun⟩, nofun⟩
      · exact ⟨⟨_, .inr ⟨.inr (.inr (.inl ⟨_, rfl⟩)), rfl⟩, nofun⟩, nofun⟩
      · exact ⟨⟨_, .inr ⟨.inr (.inr (.inr ⟨r1, _, rfl, .inl a1⟩)), rfl⟩, nofun⟩, fun e => ne1 (V.ref.inj e)⟩
      · exact ⟨⟨_, .inr ⟨.inr (.inr (.inr ⟨r2, _, rfl, .inr (.inl a2)⟩)), rfl⟩, nofun⟩, fun e => ne2 (V.ref.inj e)⟩
      · exact ⟨⟨_, .inr ⟨.inr (.inr (.inr ⟨r3, [], rfl, .inr (.inr ⟨_, a3⟩)⟩)), rfl⟩, nofun⟩, fun e => ne3 (V.ref.inj e)⟩
      · exact ⟨⟨_, .inl ⟨_, rfl, rfl⟩, fun i e => by cases e; rw [big]; omega⟩, nofun⟩
      · exact ⟨⟨_, .inr ⟨.inr (.inl ⟨_, rfl⟩), rfl⟩, nofun⟩, nofun⟩
      · exact ⟨⟨_, .inr ⟨.inr (.inr (.inl ⟨_, rfl⟩)), rfl⟩, nofun⟩, nofun⟩
    refine ⟨a, r4, j, _, rfl, ne4, g4.at_, by simp, by simp, hs4, by omega, fun iv v j2 G5 hv j3 j4 o5 hs5 => ?_⟩
    obtain ⟨ov4, va⟩ := out v (List.mem_of_getElem? hv)
    have ov5 := ov4.oth o5 va
    have o05 : Oth a H G5 := Oth.trans (Oth.of s04) o5
    have ha0 : ∃ ys, H a = some (.lst ys) := let ⟨c, d, e, _⟩ := hs; ⟨_, e⟩
    obtain ⟨ys, ha0⟩ := ha0
    have t5 := tabs_oth ht o05 ha0
    have pa : p ≠ a := fun e => by
      obtain ⟨c, d, z, _⟩ := hs.same s1
      rw [e, z] at hp1
      cases hp1
    have ta : t ≠ a := fun e => by
      obtain ⟨c, d, z, _⟩ := hs.same s1
      rw [e, z] at hp2
      cases hp2
    have hp5 := o5 _ _ pa (sG4 _ _ (sm _ _ hp1))
    have ht5 := o5 _ _ ta (sG4 _ _ (sm _ _ hp2))
    have hl5 := o05 _ _ la hl
    try simp only [cxK, r_lam, r_dnew, r_err, r_base, r_serr, r_var, r_c, r_seq, r_next, r_break, r_cont, r_drop, r_ret, r_retN, r_if, r_ife, r_asg, r_name, r_op, r_un, r_nil, r_cons, r_lst2, r_tup2, r_lc, r_for, r_ilist, r_itup, r_istr, r_irng1, r_irng2, r_ienum, r_ienumS, wipe, r_cb, r_test, r_b, r_not, r_notV, r_andV, r_orV, r_isN, r_notN, r_m1, r_m0, r_fld, sFld, putF, r_par, r_sub, r_gtup, r_gnil, r_gcons, r_sl, r_nopart, r_part, r_bm, r_bm0, r_chain, r_call, r_callK, r_meth, r_prop, r_make, r_and, r_or, andT_t, andT_f, orT_t, orT_f, ifK_t, ifK_f, ifE_t, ifE_f, andK_t, andK_f, orK_t, orK_f, L2.start, List.map_cons, List.map_nil, List.length_cons, List.length_nil, List.replicate_succ, List.replicate_zero, List.cons_append, List.nil_append, List.getElem?_cons_succ, List.getElem?_cons_zero, List.set_cons_succ, List.set_cons_zero, Nat.reduceAdd, Nat.reduceSub, Nat.zero_add, decide_true, decide_false, Bool.not_true, Bool.not_false, if_true, if_false, rEq, rNe, scal_ii, scal_ss, scal_bb, scal_is, scal_si, scal_ns, scal_ni, scal_in, scal_sn, scal_nn, rI, rI0, rU, rIxLH, rIxTH, rLenH, rLenTH, rSetL, rCatN, rTupOfN, rLstOfN, rSlLN, rSlTN, CDiv, CPow, CMul, CDivW, rNeNil, rLenO, rSplitN, rRepN, r_replC, rMulS, r_methK, rRepTN, r_cmK, rCmpO, rInO, r_ixO, r_revL, rInSelf, rCmpA, rBinO, Bool.false_xor, Bool.true_xor, r_starT, r_starL, r_cm, r_cval, selK_t, selK_f, rAppend, rIsK, reduceCtorEq, upd_same, at0, at1, at2, at3, at4, at5, at6, at7, at8, at9, at10, at11, at12, at13, ix3_0, ix3_1, ix3_2, V.int.injEq, V.bl.injEq, V.str.injEq, V.ref.injEq, Option.some.injEq, HO.lst.injEq, HO.tup.injEq, HO.ins.injEq, List.cons.injEq, and_true, true_and, exists_eq_left, exists_eq_left', exists_and_left, exists_eq', exists_eq, and_assoc, N_law_read_right]
    refine ⟨t5, fun G6 e6 t6 => TTinv.intro ?_⟩
    have hp6 := e6 _ _ hp5 nofun
    have ht6 := e6 _ _ ht5 nofun
    obtain ⟨rr, iv6, no6⟩ := ov5.extN e6
    try simp only [cxK, r_lam, r_dnew, r_err, r_base, r_serr, r_var, r_c, r_seq, r_next, r_break, r_cont, r_drop, r_ret, r_retN, r_if, r_ife, r_asg, r_name, r_op, r_un, r_nil, r_cons, r_lst2, r_tup2, r_lc, r_for, r_ilist, r_itup, r_istr, r_irng1, r_irng2, r_ienum, r_ienumS, wipe, r_cb, r_test, r_b, r_not, r_notV, r_andV, r_orV, r_isN, r_notN, r_m1, r_m0, r_fld, sFld, putF, r_par, r_sub, r_gtup, r_gnil, r_gcons, r_sl, r_nopart, r_part, r_bm, r_bm0, r_chain, r_call, r_callK, r_meth, r_prop, r_make, r_and, r_or, andT_t, andT_f, orT_t, orT_f, ifK_t, ifK_f, ifE_t, ifE_f, andK_t, andK_f, orK_t, orK_f, L2.start, List.map_cons, List.map_nil, List.length_cons, List.length_nil, List.replicate_succ, List.replicate_zero, List.cons_append, List.nil_append, List.getElem?_cons_succ, List.getElem?_cons_zero, List.set_cons_succ, List.set_cons_zero, Nat.reduceAdd, Nat.reduceSub, Nat.zero_add, decide_true, decide_false, Bool.not_true, Bool.not_false, if_true, if_false, rEq, rNe, scal_ii, scal_ss, scal_bb, scal_is, scal_si, scal_ns, scal_ni, scal_in, scal_sn, scal_nn, rI, rI0, rU, rIxLH, rIxTH, rLenH, rLenTH, rSetL, rCatN, rTupOfN, rLstOfN, rSlLN, rSlTN, CDiv, CPow, CMul, CDivW, rNeNil, rLenO, rSplitN, rRepN, r_replC, rMulS, r_methK, rRepTN, r_cmK, rCmpO, rInO, r_ixO, r_revL, rInSelf, rCmpA, rBinO, Bool.false_xor, Bool.true_xor, r_starT, r_starL, r_cm, r_cval, selK_t, selK_f, rAppend, rIsK, reduceCtorEq, upd_same, at0, at1, at2, at3, at4, at5, at6, at7, at8, at9, at10, at11, at12, at13, ix3_0, ix3_1, ix3_2, V.int.injEq, V.bl.injEq, V.str.injEq, V.ref.injEq, Option.some.injEq, HO.lst.injEq, HO.tup.injEq, HO.ins.injEq, List.cons.injEq, and_true, true_and, exists_eq_left, exists_eq_left', exists_and_left, exists_eq', exists_eq, and_assoc, N_law_read_right, hp6]
    refine ⟨p, ns, v, rr, rfl, ⟨dx, t, hp6, ht6⟩, by omega, iv6, fun m z e hz => ?_, fun d fs G7 no s7 hd7 => errK.number hd7 fun G8 s8 => ?_⟩
    · exact absurd ⟨by omega, by have := idx_lt hz; omega⟩ (no6 _ e)
    have s68 := same_trans s7 s8
    have hs8 := (hs5.othN e6).same s68
    try simp only [cxK, r_lam, r_dnew, r_err, r_base, r_serr, r_var, r_c, r_seq, r_next, r_break, r_cont, r_drop, r_ret, r_retN, r_if, r_ife, r_asg, r_name, r_op, r_un, r_nil, r_cons, r_lst2, r_tup2, r_lc, r_for, r_ilist, r_itup, r_istr, r_irng1, r_irng2, r_ienum, r_ienumS, wipe, r_cb, r_test, r_b, r_not, r_notV, r_andV, r_orV, r_isN, r_notN, r_m1, r_m0, r_fld, sFld, putF, r_par, r_sub, r_gtup, r_gnil, r_gcons, r_sl, r_nopart, r_part, r_bm, r_bm0, r_chain, r_call, r_callK, r_meth, r_prop, r_make, r_and, r_or, andT_t, andT_f, orT_t, orT_f, ifK_t, ifK_f, ifE_t, ifE_f, andK_t, andK_f, orK_t, orK_f, L2.start, List.map_cons, List.map_nil, List.length_cons, List.length_nil, List.replicate_succ, List.replicate_zero, List.cons_append, List.nil_append, List.getElem?_cons_succ, List.getElem?_cons_zero, List.set_cons_succ, List.set_cons_zero, Nat.reduceAdd, Nat.reduceSub, Nat.zero_add, decide_true, decide_false, Bool.not_true, Bool.not_false, if_true, if_false, rEq, rNe, scal_ii, scal_ss, scal_bb, scal_is, scal_si, scal_ns, scal_ni, scal_in, scal_sn, scal_nn, rI, rI0, rU, rIxLH, rIxTH, rLenH, rLenTH, rSetL, rCatN, rTupOfN, rLstOfN, rSlLN, rSlTN, CDiv, CPow, CMul, CDivW, rNeNil, rLenO, rSplitN, rRepN, r_replC, rMulS, r_methK, rRepTN, r_cmK, rCmpO, rInO, r_ixO, r_revL, rInSelf, rCmpA, rBinO, Bool.false_xor, Bool.true_xor, r_starT, r_starL, r_cm, r_cval, selK_t, selK_f, rAppend, rIsK, reduceCtorEq, upd_same, at0, at1, at2, at3, at4, at5, at6, at7, at8, at9, at10, at11, at12, at13, ix3_0, ix3_1, ix3_2, V.int.injEq, V.bl.injEq, V.str.injEq, V.ref.injEq, Option.some.injEq, HO.lst.injEq, HO.tup.injEq, HO.ins.injEq, List.cons.injEq, and_true, true_and, exists_eq_left, exists_eq_left', exists_and_left, exists_eq', exists_eq, and_assoc, N_law_read_right]
    refine ⟨a, j2, rfl, hs8, by omega, fun z j5 G9 hz j6 j7 o9 hs9 => ?_⟩
    have hp9 := o9 _ _ pa (s68 _ _ hp6)
    have ht9 := o9 _ _ ta (s68 _ _ ht6)
    have hl9 := o9 _ _ la (s68 _ _ (e6 _ _ hl5 nofun))
    have hzN : NmV G9 (V.str z) true := .inl ⟨z, rfl, by have := (isNm_fits hz).1; show z.length ≤ _; omega, hz.symm⟩
    try simp only [cxK, r_lam, r_dnew, r_err, r_base, r_serr, r_var, r_c, r_seq, r_next, r_break, r_cont, r_drop, r_ret, r_retN, r_if, r_ife, r_asg, r_name, r_op, r_un, r_nil, r_cons, r_lst2, r_tup2, r_lc, r_for, r_ilist, r_itup, r_istr, r_irng1, r_irng2, r_ienum, r_ienumS, wipe, r_cb, r_test, r_b, r_not, r_notV, r_andV, r_orV, r_isN, r_notN, r_m1, r_m0, r_fld, sFld, putF, r_par, r_sub, r_gtup, r_gnil, r_gcons, r_sl, r_nopart, r_part, r_bm, r_bm0, r_chain, r_call, r_callK, r_meth, r_prop, r_make, r_and, r_or, andT_t, andT_f, orT_t, orT_f, ifK_t, ifK_f, ifE_t, ifE_f, andK_t, andK_f, orK_t, orK_f, L2.start, List.map_cons, List.map_nil, List.length_cons, List.length_nil, List.replicate_succ, List.replicate_zero, List.cons_append, List.nil_append, List.getElem?_cons_succ, List.getElem?_cons_zero, List.set_cons_succ, List.set_cons_zero, Nat.reduceAdd, Nat.reduceSub, Nat.zero_add, decide_true, decide_false, Bool.not_true, Bool.not_false, if_true, if_false, rEq, rNe, scal_ii, scal_ss, scal_bb, scal_is, scal_si, scal_ns, scal_ni, scal_in, scal_sn, scal_nn, rI, rI0, rU, rIxLH, rIxTH, rLenH, rLenTH, rSetL, rCatN, rTupOfN, rLstOfN, rSlLN, rSlTN, CDiv, CPow, CMul, CDivW, rNeNil, rLenO, rSplitN, rRepN, r_replC, rMulS, r_methK, rRepTN, r_cmK, rCmpO, rInO, r_ixO, r_revL, rInSelf, rCmpA, rBinO, Bool.false_xor, Bool.true_xor, r_starT, r_starL, r_cm, r_cval, selK_t, selK_f, rAppend, rIsK, reduceCtorEq, upd_same, at0, at1, at2, at3, at4, at5, at6, at7, at8, at9, at10, at11, at12, at13, ix3_0, ix3_1, ix3_2, V.int.injEq, V.bl.injEq, V.str.injEq, V.ref.injEq, Option.some.injEq, HO.lst.injEq, HO.tup.injEq, HO.ins.injEq, List.cons.injEq, and_true, true_and, exists_eq_left, exists_eq_left', exists_and_left, exists_eq', exists_eq, and_assoc, N_law_read_right, hp9]
    refine ⟨p, ns, _, true, rfl, ⟨dx, t, hp9, ht9⟩, hzN, fun Ga sa => ⟨nofun, fun z' ez _ => ?_⟩⟩
    cases ez
    have hpa := sa _ _ hp9
    try simp only [cxK, r_lam, r_dnew, r_err, r_base, r_serr, r_var, r_c, r_seq, r_next, r_break, r_cont, r_drop, r_ret, r_retN, r_if, r_ife, r_asg, r_name, r_op, r_un, r_nil, r_cons, r_lst2, r_tup2, r_lc, r_for, r_ilist, r_itup, r_istr, r_irng1, r_irng2, r_ienum, r_ienumS, wipe, r_cb, r_test, r_b, r_not, r_notV, r_andV, r_orV, r_isN, r_notN, r_m1, r_m0, r_fld, sFld, putF, r_par, r_sub, r_gtup, r_gnil, r_gcons, r_sl, r_nopart, r_part, r_bm, r_bm0, r_chain, r_call, r_callK, r_meth, r_prop, r_make, r_and, r_or, andT_t, andT_f, orT_t, orT_f, ifK_t, ifK_f, ifE_t, ifE_f, andK_t, andK_f, orK_t, orK_f, L2.start, List.map_cons, List.map_nil, List.length_cons, List.length_nil, List.replicate_succ, List.replicate_zero, List.cons_append, List.nil_append, List.getElem?_cons_succ, List.getElem?_cons_zero, List.set_cons_succ, List.set_cons_zero, Nat.reduceAdd, Nat.reduceSub, Nat.zero_add, decide_true, decide_false, Bool.not_true, Bool.not_false, if_true, if_false, rEq, rNe, scal_ii, scal_ss, scal_bb, scal_is, scal_si, scal_ns, scal_ni, scal_in, scal_sn, scal_nn, rI, rI0, rU, rIxLH, rIxTH, rLenH, rLenTH, rSetL, rCatN, rTupOfN, rLstOfN, rSlLN, rSlTN, CDiv, CPow, CMul, CDivW, rNeNil, rLenO, rSplitN, rRepN, r_replC, rMulS, r_methK, rRepTN, r_cmK, rCmpO, rInO, r_ixO, r_revL, rInSelf, rCmpA, rBinO, Bool.false_xor, Bool.true_xor, r_starT, r_starL, r_cm, r_cval, selK_t, selK_f, rAppend, rIsK, reduceCtorEq, upd_same, at0, at1, at2, at3, at4, at5, at6, at7, at8, at9, at10, at11, at12, at13, ix3_0, ix3_1, ix3_2, V.int.injEq, V.bl.injEq, V.str.injEq, V.ref.injEq, Option.some.injEq, HO.lst.injEq, HO.tup.injEq, HO.ins.injEq, List.cons.injEq, and_true, true_and, exists_eq_left, exists_eq_left', exists_and_left, exists_eq', exists_eq, and_assoc, N_law_read_right, hpa]
    refine ⟨p, ns, _, true, rfl, ⟨dx, t, hpa, sa _ _ ht9⟩, hzN.same sa, fun Gb sb => ⟨nofun, fun z' ez _ => ?_⟩⟩
    cases ez
    have sab := same_trans sa sb
    try simp only [cxK, r_lam, r_dnew, r_err, r_base, r_serr, r_var, r_c, r_seq, r_next, r_break, r_cont, r_drop, r_ret, r_retN, r_if, r_ife, r_asg, r_name, r_op, r_un, r_nil, r_cons, r_lst2, r_tup2, r_lc, r_for, r_ilist, r_itup, r_istr, r_irng1, r_irng2, r_ienum, r_ienumS, wipe, r_cb, r_test, r_b, r_not, r_notV, r_andV, r_orV, r_isN, r_notN, r_m1, r_m0, r_fld, sFld, putF, r_par, r_sub, r_gtup, r_gnil, r_gcons, r_sl, r_nopart, r_part, r_bm, r_bm0, r_chain, r_call, r_callK, r_meth, r_prop, r_make, r_and, r_or, andT_t, andT_f, orT_t, orT_f, ifK_t, ifK_f, ifE_t, ifE_f, andK_t, andK_f, orK_t, orK_f, L2.start, List.map_cons, List.map_nil, List.length_cons, List.length_nil, List.replicate_succ, List.replicate_zero, List.cons_append, List.nil_append, List.getElem?_cons_succ, List.getElem?_cons_zero, List.set_cons_succ, List.set_cons_zero, Nat.reduceAdd, Nat.reduceSub, Nat.zero_add, decide_true, decide_false, Bool.not_true, Bool.not_false, if_true, if_false, rEq, rNe, scal_ii, scal_ss, scal_bb, scal_is, scal_si, scal_ns, scal_ni, scal_in, scal_sn, scal_nn, rI, rI0, rU, rIxLH, rIxTH, rLenH, rLenTH, rSetL, rCatN, rTupOfN, rLstOfN, rSlLN, rSlTN, CDiv, CPow, CMul, CDivW, rNeNil, rLenO, rSplitN, rRepN, r_replC, rMulS, r_methK, rRepTN, r_cmK, rCmpO, rInO, r_ixO, r_revL, rInSelf, rCmpA, rBinO, Bool.false_xor, Bool.true_xor, r_starT, r_starL, r_cm, r_cval, selK_t, selK_f, rAppend, rIsK, reduceCtorEq, upd_same, at0, at1, at2, at3, at4, at5, at6, at7, at8, at9, at10, at11, at12, at13, ix3_0, ix3_1, ix3_2, V.int.injEq, V.bl.injEq, V.str.injEq, V.ref.injEq, Option.some.injEq, HO.lst.injEq, HO.tup.injEq, HO.ins.injEq, List.cons.injEq, and_true, true_and, exists_eq_left, exists_eq_left', exists_and_left, exists_eq', exists_eq, and_assoc, N_law_read_right]
    refine ⟨fits (by decide), fun u1 Gc nc => ?_⟩
    have hc1 := nc.at_
    try simp only [cxK, r_lam, r_dnew, r_err, r_base, r_serr, r_var, r_c, r_seq, r_next, r_break, r_cont, r_drop, r_ret, r_retN, r_if, r_ife, r_asg, r_name, r_op, r_un, r_nil, r_cons, r_lst2, r_tup2, r_lc, r_for, r_ilist, r_itup, r_istr, r_irng1, r_irng2, r_ienum, r_ienumS, wipe, r_cb, r_test, r_b, r_not, r_notV, r_andV, r_orV, r_isN, r_notN, r_m1, r_m0, r_fld, sFld, putF, r_par, r_sub, r_gtup, r_gnil, r_gcons, r_sl, r_nopart, r_part, r_bm, r_bm0, r_chain, r_call, r_callK, r_meth, r_prop, r_make, r_and, r_or, andT_t, andT_f, orT_t, orT_f, ifK_t, ifK_f, ifE_t, ifE_f, andK_t, andK_f, orK_t, orK_f, L2.start, List.map_cons, List.map_nil, List.length_cons, List.length_nil, List.replicate_succ, List.replicate_zero, List.cons_append, List.nil_append, List.getElem?_cons_succ, List.getElem?_cons_zero, List.set_cons_succ, List.set_cons_zero, Nat.reduceAdd, Nat.reduceSub, Nat.zero_add, decide_true, decide_false, Bool.not_true, Bool.not_false, if_true, if_false, rEq, rNe, scal_ii, scal_ss, scal_bb, scal_is, scal_si, scal_ns, scal_ni, scal_in, scal_sn, scal_nn, rI, rI0, rU, rIxLH, rIxTH, rLenH, rLenTH, rSetL, rCatN, rTupOfN, rLstOfN, rSlLN, rSlTN, CDiv, CPow, CMul, CDivW, rNeNil, rLenO, rSplitN, rRepN, r_replC, rMulS, r_methK, rRepTN, r_cmK, rCmpO, rInO, r_ixO, r_revL, rInSelf, rCmpA, rBinO, Bool.false_xor, Bool.true_xor, r_starT, r_starL, r_cm, r_cval, selK_t, selK_f, rAppend, rIsK, reduceCtorEq, upd_same, at0, at1, at2, at3, at4, at5, at6, at7, at8, at9, at10, at11, at12, at13, ix3_0, ix3_1, ix3_2, V.int.injEq, V.bl.injEq, V.str.injEq, V.ref.injEq, Option.some.injEq, HO.lst.injEq, HO.tup.injEq, HO.ins.injEq, List.cons.injEq, and_true, true_and, exists_eq_left, exists_eq_left', exists_and_left, exists_eq', exists_eq, and_assoc, N_law_read_right, hc1]
    refine ⟨fits (by decide), fun u2 Gd nd => ?_⟩
    have s9d := same_trans sab (same_trans nc.same nd.same)
    have hu2 := nd.at_
    have hs9d := hs9.same s9d
    have u2a : u2 ≠ a := fun e => (hs9.same (same_trans sab nc.same)).ne nd.1 e.symm
    refine ⟨a, j5, rfl, hs9d, by omega, fun v2 j8 Ge hv2 _ j9 j10 oe hse => ?_⟩
    have hpe := oe _ _ pa (s9d _ _ hp9)
    have hte := oe _ _ ta (s9d _ _ ht9)
    have hle := oe _ _ la (s9d _ _ hl9)
    have hue := oe _ _ u2a hu2
    try simp only [cxK, r_lam, r_dnew, r_err, r_base, r_serr, r_var, r_c, r_seq, r_next, r_break, r_cont, r_drop, r_ret, r_retN, r_if, r_ife, r_asg, r_name, r_op, r_un, r_nil, r_cons, r_lst2, r_tup2, r_lc, r_for, r_ilist, r_itup, r_istr, r_irng1, r_irng2, r_ienum, r_ienumS, wipe, r_cb, r_test, r_b, r_not, r_notV, r_andV, r_orV, r_isN, r_notN, r_m1, r_m0, r_fld, sFld, putF, r_par, r_sub, r_gtup, r_gnil, r_gcons, r_sl, r_nopart, r_part, r_bm, r_bm0, r_chain, r_call, r_callK, r_meth, r_prop, r_make, r_and, r_or, andT_t, andT_f, orT_t, orT_f, ifK_t, ifK_f, ifE_t, ifE_f, andK_t, andK_f, orK_t, orK_f, L2.start, List.map_cons, List.map_nil, List.length_cons, List.length_nil, List.replicate_succ, List.replicate_zero, List.cons_append, List.nil_append, List.getElem?_cons_succ, List.getElem?_cons_zero, List.set_cons_succ, List.set_cons_zero, Nat.reduceAdd, Nat.reduceSub, Nat.zero_add, decide_true, decide_false, Bool.not_true, Bool.not_false, if_true, if_false, rEq, rNe, scal_ii, scal_ss, scal_bb, scal_is, scal_si, scal_ns, scal_ni, scal_in, scal_sn, scal_nn, rI, rI0, rU, rIxLH, rIxTH, rLenH, rLenTH, rSetL, rCatN, rTupOfN, rLstOfN, rSlLN, rSlTN, CDiv, CPow, CMul, CDivW, rNeNil, rLenO, rSplitN, rRepN, r_replC, rMulS, r_methK, rRepTN, r_cmK, rCmpO, rInO, r_ixO, r_revL, rInSelf, rCmpA, rBinO, Bool.false_xor, Bool.true_xor, r_starT, r_starL, r_cm, r_cval, selK_t, selK_f, rAppend, rIsK, reduceCtorEq, upd_same, at0, at1, at2, at3, at4, at5, at6, at7, at8, at9, at10, at11, at12, at13, ix3_0, ix3_1, ix3_2, V.int.injEq, V.bl.injEq, V.str.injEq, V.ref.injEq, Option.some.injEq, HO.lst.injEq, HO.tup.injEq, HO.ins.injEq, List.cons.injEq, and_true, true_and, exists_eq_left, exists_eq_left', exists_and_left, exists_eq', exists_eq, and_assoc, N_law_read_right, hpe]
    refine ⟨p, ns, v2, false, rfl, ⟨dx, t, hpe, hte⟩, hv2, fun Gf sf => ⟨fun _ => ?_, fun _ _ h => nomatch h⟩⟩
    have hlf := sf _ _ hle
    try simp only [cxK, r_lam, r_dnew, r_err, r_base, r_serr, r_var, r_c, r_seq, r_next, r_break, r_cont, r_drop, r_ret, r_retN, r_if, r_ife, r_asg, r_name, r_op, r_un, r_nil, r_cons, r_lst2, r_tup2, r_lc, r_for, r_ilist, r_itup, r_istr, r_irng1, r_irng2, r_ienum, r_ienumS, wipe, r_cb, r_test, r_b, r_not, r_notV, r_andV, r_orV, r_isN, r_notN, r_m1, r_m0, r_fld, sFld, putF, r_par, r_sub, r_gtup, r_gnil, r_gcons, r_sl, r_nopart, r_part, r_bm, r_bm0, r_chain, r_call, r_callK, r_meth, r_prop, r_make, r_and, r_or, andT_t, andT_f, orT_t, orT_f, ifK_t, ifK_f, ifE_t, ifE_f, andK_t, andK_f, orK_t, orK_f, L2.start, List.map_cons, List.map_nil, List.length_cons, List.length_nil, List.replicate_succ, List.replicate_zero, List.cons_append, List.nil_append, List.getElem?_cons_succ, List.getElem?_cons_zero, List.set_cons_succ, List.set_cons_zero, Nat.reduceAdd, Nat.reduceSub, Nat.zero_add, decide_true, decide_false, Bool.not_true, Bool.not_false, if_true, if_false, rEq, rNe, scal_ii, scal_ss, scal_bb, scal_is, scal_si, scal_ns, scal_ni, scal_in, scal_sn, scal_nn, rI, rI0, rU, rIxLH, rIxTH, rLenH, rLenTH, rSetL, rCatN, rTupOfN, rLstOfN, rSlLN, rSlTN, CDiv, CPow, CMul, CDivW, rNeNil, rLenO, rSplitN, rRepN, r_replC, rMulS, r_methK, rRepTN, r_cmK, rCmpO, rInO, r_ixO, r_revL, rInSelf, rCmpA, rBinO, Bool.false_xor, Bool.true_xor, r_starT, r_starL, r_cm, r_cval, selK_t, selK_f, rAppend, rIsK, reduceCtorEq, upd_same, at0, at1, at2, at3, at4, at5, at6, at7, at8, at9, at10, at11, at12, at13, ix3_0, ix3_1, ix3_2, V.int.injEq, V.bl.injEq, V.str.injEq, V.ref.injEq, Option.some.injEq, HO.lst.injEq, HO.tup.injEq, HO.ins.injEq, List.cons.injEq, and_true, true_and, exists_eq_left, exists_eq_left', exists_and_left, exists_eq', exists_eq, and_assoc, N_law_read_right, hlf]
    intro u3 Gg ng
    have sfg := same_trans sf ng.same
    have hpg := sfg _ _ hpe
    try simp only [cxK, r_lam, r_dnew, r_err, r_base, r_serr, r_var, r_c, r_seq, r_next, r_break, r_cont, r_drop, r_ret, r_retN, r_if, r_ife, r_asg, r_name, r_op, r_un, r_nil, r_cons, r_lst2, r_tup2, r_lc, r_for, r_ilist, r_itup, r_istr, r_irng1, r_irng2, r_ienum, r_ienumS, wipe, r_cb, r_test, r_b, r_not, r_notV, r_andV, r_orV, r_isN, r_notN, r_m1, r_m0, r_fld, sFld, putF, r_par, r_sub, r_gtup, r_gnil, r_gcons, r_sl, r_nopart, r_part, r_bm, r_bm0, r_chain, r_call, r_callK, r_meth, r_prop, r_make, r_and, r_or, andT_t, andT_f, orT_t, orT_f, ifK_t, ifK_f, ifE_t, ifE_f, andK_t, andK_f, orK_t, orK_f, L2.start, List.map_cons, List.map_nil, List.length_cons, List.length_nil, List.replicate_succ, List.replicate_zero, List.cons_append, List.nil_append, List.getElem?_cons_succ, List.getElem?_cons_zero, List.set_cons_succ, List.set_cons_zero, Nat.reduceAdd, Nat.reduceSub, Nat.zero_add, decide_true, decide_false, Bool.not_true, Bool.not_false, if_true, if_false, rEq, rNe, scal_ii, scal_ss, scal_bb, scal_is, scal_si, scal_ns, scal_ni, scal_in, scal_sn, scal_nn, rI, rI0, rU, rIxLH, rIxTH, rLenH, rLenTH, rSetL, rCatN, rTupOfN, rLstOfN, rSlLN, rSlTN, CDiv, CPow, CMul, CDivW, rNeNil, rLenO, rSplitN, rRepN, r_replC, rMulS, r_methK, rRepTN, r_cmK, rCmpO, rInO, r_ixO, r_revL, rInSelf, rCmpA, rBinO, Bool.false_xor, Bool.true_xor, r_starT, r_starL, r_cm, r_cval, selK_t, selK_f, rAppend, rIsK, reduceCtorEq, upd_same, at0, at1, at2, at3, at4, at5, at6, at7, at8, at9, at10, at11, at12, at13, ix3_0, ix3_1, ix3_2, V.int.injEq, V.bl.injEq, V.str.injEq, V.ref.injEq, Option.some.injEq, HO.lst.injEq, HO.tup.injEq, HO.ins.injEq, List.cons.injEq, and_true, true_and, exists_eq_left, exists_eq_left', exists_and_left, exists_eq', exists_eq, and_assoc, N_law_read_right, hpg]
    refine ⟨p, ns, .ref u3, false, rfl, ⟨dx, t, hpg, sfg _ _ hte⟩, .inr ⟨.inr (.inr (.inr ⟨u3, _, rfl, .inl ng.at_⟩)), rfl⟩, fun Gh sh => ⟨fun _ => ?_, fun _ _ h => nomatch h⟩⟩
    have seh := same_trans sfg sh
    have huh := seh _ _ hue
    try simp only [cxK, r_lam, r_dnew, r_err, r_base, r_serr, r_var, r_c, r_seq, r_next, r_break, r_cont, r_drop, r_ret, r_retN, r_if, r_ife, r_asg, r_name, r_op, r_un, r_nil, r_cons, r_lst2, r_tup2, r_lc, r_for, r_ilist, r_itup, r_istr, r_irng1, r_irng2, r_ienum, r_ienumS, wipe, r_cb, r_test, r_b, r_not, r_notV, r_andV, r_orV, r_isN, r_notN, r_m1, r_m0, r_fld, sFld, putF, r_par, r_sub, r_gtup, r_gnil, r_gcons, r_sl, r_nopart, r_part, r_bm, r_bm0, r_chain, r_call, r_callK, r_meth, r_prop, r_make, r_and, r_or, andT_t, andT_f, orT_t, orT_f, ifK_t, ifK_f, ifE_t, ifE_f, andK_t, andK_f, orK_t, orK_f, L2.start, List.map_cons, List.map_nil, List.length_cons, List.length_nil, List.replicate_succ, List.replicate_zero, List.cons_append, List.nil_append, List.getElem?_cons_succ, List.getElem?_cons_zero, List.set_cons_succ, List.set_cons_zero, Nat.reduceAdd, Nat.reduceSub, Nat.zero_add, decide_true, decide_false, Bool.not_true, Bool.not_false, if_true, if_false, rEq, rNe, scal_ii, scal_ss, scal_bb, scal_is, scal_si, scal_ns, scal_ni, scal_in, scal_sn, scal_nn, rI, rI0, rU, rIxLH, rIxTH, rLenH, rLenTH, rSetL, rCatN, rTupOfN, rLstOfN, rSlLN, rSlTN, CDiv, CPow, CMul, CDivW, rNeNil, rLenO, rSplitN, rRepN, r_replC, rMulS, r_methK, rRepTN, r_cmK, rCmpO, rInO, r_ixO, r_revL, rInSelf, rCmpA, rBinO, Bool.false_xor, Bool.true_xor, r_starT, r_starL, r_cm, r_cval, selK_t, selK_f, rAppend, rIsK, reduceCtorEq, upd_same, at0, at1, at2, at3, at4, at5, at6, at7, at8, at9, at10, at11, at12, at13, ix3_0, ix3_1, ix3_2, V.int.injEq, V.bl.injEq, V.str.injEq, V.ref.injEq, Option.some.injEq, HO.lst.injEq, HO.tup.injEq, HO.ins.injEq, List.cons.injEq, and_true, true_and, exists_eq_left, exists_eq_left', exists_and_left, exists_eq', exists_eq, and_assoc, N_law_read_right]
    refine ⟨fits (by decide), fun u4 Gi ni => ?_⟩
    have hui := ni.old huh
    have hi4 := ni.at_
    try simp only [cxK, r_lam, r_dnew, r_err, r_base, r_serr, r_var, r_c, r_seq, r_next, r_break, r_cont, r_drop, r_ret, r_retN, r_if, r_ife, r_asg, r_name, r_op, r_un, r_nil, r_cons, r_lst2, r_tup2, r_lc, r_for, r_ilist, r_itup, r_istr, r_irng1, r_irng2, r_ienum, r_ienumS, wipe, r_cb, r_test, r_b, r_not, r_notV, r_andV, r_orV, r_isN, r_notN, r_m1, r_m0, r_fld, sFld, putF, r_par, r_sub, r_gtup, r_gnil, r_gcons, r_sl, r_nopart, r_part, r_bm, r_bm0, r_chain, r_call, r_callK, r_meth, r_prop, r_make, r_and, r_or, andT_t, andT_f, orT_t, orT_f, ifK_t, ifK_f, ifE_t, ifE_f, andK_t, andK_f, orK_t, orK_f, L2.start, List.map_cons, List.map_nil, List.length_cons, List.length_nil, List.replicate_succ, List.replicate_zero, List.cons_append, List.nil_append, List.getElem?_cons_succ, List.getElem?_cons_zero, List.set_cons_succ, List.set_cons_zero, Nat.reduceAdd, Nat.reduceSub, Nat.zero_add, decide_true, decide_false, Bool.not_true, Bool.not_false, if_true, if_false, rEq, rNe, scal_ii, scal_ss, scal_bb, scal_is, scal_si, scal_ns, scal_ni, scal_in, scal_sn, scal_nn, rI, rI0, rU, rIxLH, rIxTH, rLenH, rLenTH, rSetL, rCatN, rTupOfN, rLstOfN, rSlLN, rSlTN, CDiv, CPow, CMul, CDivW, rNeNil, rLenO, rSplitN, rRepN, r_replC, rMulS, r_methK, rRepTN, r_cmK, rCmpO, rInO, r_ixO, r_revL, rInSelf, rCmpA, rBinO, Bool.false_xor, Bool.true_xor, r_starT, r_starL, r_cm, r_cval, selK_t, selK_f, rAppend, rIsK, reduceCtorEq, upd_same, at0, at1, at2, at3, at4, at5, at6, at7, at8, at9, at10, at11, at12, at13, ix3_0, ix3_1, ix3_2, V.int.injEq, V.bl.injEq, V.str.injEq, V.ref.injEq, Option.some.injEq, HO.lst.injEq, HO.tup.injEq, HO.ins.injEq, List.cons.injEq, and_true, true_and, exists_eq_left, exists_eq_left', exists_and_left, exists_eq', exists_eq, and_assoc, N_law_read_right, hui, hi4]
    refine ⟨fits (by decide), fun u5 Gj nj => ?_⟩
    have hj5 := nj.at_
    obtain ⟨bb, eb⟩ : ∃ bb, bb = decide (z ∈ ns) := ⟨_, rfl⟩
    rw [← eb] at hj5
    have r5 : Rp (0 + 1 + (0 + 1 + (0 + 1 + (0 + 1 + (0 + 1 + 0))))) (max 0 (max 0 (max 0 (max 0 (max 0 0)))) + 1) (.list [.bool bb, .bool (!bb), .bool true, .bool false, .bool false]) := Rp.list (RpA.cons (Rp.bool _) (RpA.cons (Rp.bool _) (RpA.cons (Rp.bool _) (RpA.cons (Rp.bool _) (RpA.cons (Rp.bool _) RpA.nil)))))
    refine repr_of (.lst (SqL.of hj5) (.cons (.bl _) (.cons (.bl _) (.cons (.bl _) (.cons (.bl _) (.cons (.bl _) .nil)))))) r5 (by decide) (by decide) (fun _ h => nomatch h) ?_
    have sej := same_trans seh (same_trans ni.same nj.same)
    have hlj := sej _ _ hle
    refine ⟨l, _, rfl, .inl (SqL.of hlj), rfl, by simp [flatV], ?_⟩
    rw [if_neg Bool.false_ne_true, inV_strs, ← eb]
    refine ⟨l, _, rfl, .inl (SqL.of hlj), rfl, by simp [flatV], ?_⟩
    rw [if_pos rfl, inV_strs, ← eb]
    try simp only [cxK, r_lam, r_dnew, r_err, r_base, r_serr, r_var, r_c, r_seq, r_next, r_break, r_cont, r_drop, r_ret, r_retN, r_if, r_ife, r_asg, r_name, r_op, r_un, r_nil, r_cons, r_lst2, r_tup2, r_lc, r_for, r_ilist, r_itup, r_istr, r_irng1, r_irng2, r_ienum, r_ienumS, wipe, r_cb, r_test, r_b, r_not, r_notV, r_andV, r_orV, r_isN, r_notN, r_m1, r_m0, r_fld, sFld, putF, r_par, r_sub, r_gtup, r_gnil, r_gcons, r_sl, r_nopart, r_part, r_bm, r_bm0, r_chain, r_call, r_callK, r_meth, r_prop, r_make, r_and, r_or, andT_t, andT_f, orT_t, orT_f, ifK_t, ifK_f, ifE_t, ifE_f, andK_t, andK_f, orK_t, orK_f, L2.start, List.map_cons, List.map_nil, List.length_cons, List.length_nil, List.replicate_succ, List.replicate_zero, List.cons_append, List.nil_append, List.getElem?_cons_succ, List.getElem?_cons_zero, List.set_cons_succ, List.set_cons_zero, Nat.reduceAdd, Nat.reduceSub, Nat.zero_add, decide_true, decide_false, Bool.not_true, Bool.not_false, if_true, if_false, rEq, rNe, scal_ii, scal_ss, scal_bb, scal_is, scal_si, scal_ns, scal_ni, scal_in, scal_sn, scal_nn, rI, rI0, rU, rIxLH, rIxTH, rLenH, rLenTH, rSetL, rCatN, rTupOfN, rLstOfN, rSlLN, rSlTN, CDiv, CPow, CMul, CDivW, rNeNil, rLenO, rSplitN, rRepN, r_replC, rMulS, r_methK, rRepTN, r_cmK, rCmpO, rInO, r_ixO, r_revL, rInSelf, rCmpA, rBinO, Bool.false_xor, Bool.true_xor, r_starT, r_starL, r_cm, r_cval, selK_t, selK_f, rAppend, rIsK, reduceCtorEq, upd_same, at0, at1, at2, at3, at4, at5, at6, at7, at8, at9, at10, at11, at12, at13, ix3_0, ix3_1, ix3_2, V.int.injEq, V.bl.injEq, V.str.injEq, V.ref.injEq, Option.some.injEq, HO.lst.injEq, HO.tup.injEq, HO.ins.injEq, List.cons.injEq, and_true, true_and, exists_eq_left, exists_eq_left', exists_and_left, exists_eq', exists_eq, and_assoc, N_law_read_right]
    refine ⟨fits (by decide), fun u6 Gk nk => ?_⟩
    have hk6 := nk.at_
    refine repr_of (.lst (SqL.of hk6) (.cons (.bl _) (.cons (.bl _) (.cons (.bl _) (.cons (.bl _) (.cons (.bl _) .nil)))))) r5 (by decide) (by decide) (fun _ h => nomatch h) ?_
    try simp only [cxK, r_lam, r_dnew, r_err, r_base, r_serr, r_var, r_c, r_seq, r_next, r_break, r_cont, r_drop, r_ret, r_retN, r_if, r_ife, r_asg, r_name, r_op, r_un, r_nil, r_cons, r_lst2, r_tup2, r_lc, r_for, r_ilist, r_itup, r_istr, r_irng1, r_irng2, r_ienum, r_ienumS, wipe, r_cb, r_test, r_b, r_not, r_notV, r_andV, r_orV, r_isN, r_notN, r_m1, r_m0, r_fld, sFld, putF, r_par, r_sub, r_gtup, r_gnil, r_gcons, r_sl, r_nopart, r_part, r_bm, r_bm0, r_chain, r_call, r_callK, r_meth, r_prop, r_make, r_and, r_or, andT_t, andT_f, orT_t, orT_f, ifK_t, ifK_f, ifE_t, ifE_f, andK_t, andK_f, orK_t, orK_f, L2.start, List.map_cons, List.map_nil, List.length_cons, List.length_nil, List.replicate_succ, List.replicate_zero, List.cons_append, List.nil_append, List.getElem?_cons_succ, List.getElem?_cons_zero, List.set_cons_succ, List.set_cons_zero, Nat.reduceAdd, Nat.reduceSub, Nat.zero_add, decide_true, decide_false, Bool.not_true, Bool.not_false, if_true, if_false, rEq, rNe, scal_ii, scal_ss, scal_bb, scal_is, scal_si, scal_ns, scal_ni, scal_in, scal_sn, scal_nn, rI, rI0, rU, rIxLH, rIxTH, rLenH, rLenTH, rSetL, rCatN, rTupOfN, rLstOfN, rSlLN, rSlTN, CDiv, CPow, CMul, CDivW, rNeNil, rLenO, rSplitN, rRepN, r_replC, rMulS, r_methK, rRepTN, r_cmK, rCmpO, rInO, r_ixO, r_revL, rInSelf, rCmpA, rBinO, Bool.false_xor, Bool.true_xor, r_starT, r_starL, r_cm, r_cval, selK_t, selK_f, rAppend, rIsK, reduceCtorEq, upd_same, at0, at1, at2, at3, at4, at5, at6, at7, at8, at9, at10, at11, at12, at13, ix3_0, ix3_1, ix3_2, V.int.injEq, V.bl.injEq, V.str.injEq, V.ref.injEq, Option.some.injEq, HO.lst.injEq, HO.tup.injEq, HO.ins.injEq, List.cons.injEq, and_true, true_and, exists_eq_left, exists_eq_left', exists_and_left, exists_eq', exists_eq, and_assoc, N_law_read_right]
    have o5e : Oth a G8 Ge := Oth.trans o9 (Oth.trans (Oth.of s9d) oe)
    have sek := same_trans sej nk.same
    have t8 : LamX.Tabs (TL lm K) G8 := tabs_same t6 s68
    have ha8 : ∃ ys, G8 a = some (.lst ys) := let ⟨c, d, e, _⟩ := hs8; ⟨_, e⟩
    obtain ⟨ys8, ha8⟩ := ha8
    exact q j8 Gk (by omega) (by omega) (((OthN.of o05).trans (OthN.ext (ext_trans e6 (ext_same s68)))).trans (OthN.of (Oth.trans o5e (Oth.of sek)))) (tabs_same (tabs_oth t8 o5e ha8) sek) (hse.same sek)
def spLaw (K : PySem.W.Frag) : Sp := fun vs H Q _ => ∃ (a : Addr) (ns : List Int), vs = [.ref a] ∧ ns.length ≤ 63 ∧ SqL K H a (ns.map V.int) ∧ LamX.Tabs (TL lm K) H ∧ ∀ H', Q (.bl true) H'
def LawPv (K : PySem.W.Frag) (H : Hp) (L : Addr) (_ : Nat) (σ : L2.St) (H' : Hp) : Prop := ∃ v1 v2 v3 v4 v5 v6 : Option V, σ = [some (.ref L), v1, v2, v3, v4, v5, v6] ∧ LamX.ExtN H H' ∧ LamX.Tabs (TL lm K) H'
def LawPw (K : PySem.W.Frag) (H : Hp) (L : Addr) (k : Int) (s : Addr) (i : Nat) (σ : L2.St) (H' : Hp) : Prop := ∃ (v3 v4 v5 v6 : Option V) (j : Int), σ = [some (.ref L), some (.int k), some (.ref s), v3, v4, v5, v6] ∧ LamX.ExtN H H' ∧ LamX.Tabs (TL lm K) H' ∧ Src H' s j ∧ j ≤ 1000 + 100 * i
def LawPf (H : Hp) (L : Addr) (k : Int) (s : Addr) (v3 v4 v5 : Option V) (_ : Nat) (σ : L2.St) (H' : Hp) : Prop := ∃ v6 : Option V, σ = [some (.ref L), some (.int k), some (.ref s), v3, v4, v5, v6] ∧ Same H H'
def NL (H : Hp) (v : V) : Prop := ∃ (l : Addr) (xs : List Str), v = .ref l ∧ H l = some (.lst (xs.map V.str)) ∧ xs.length ≤ 12 ∧ ∀ x ∈ xs, isNm x = true
theorem abc_nm : ∀ x ∈ [PySem.Str.ofString "a", PySem.Str.ofString "b", PySem.Str.ofString "c"], isNm x = true := by
  have ea : PySem.Str.ofString "a" = ⟨#[97]⟩ := by decide +kernel
  have eb : PySem.Str.ofString "b" = ⟨#[98]⟩ := by decide +kernel
  have ec : PySem.Str.ofString "c" = ⟨#[99]⟩ := by decide +kernel
  rw [ea, eb, ec]
  decide +kernel
theorem ok_law (T : Tx fa fn K mg) (B : Tb lm K mg base) (dn : (lm.map fun d => tabX K d).Nodup) : Fn true P w K mg base 11 (aG "law" K) [] (spLaw K) := by
  obtain ⟨fd, F⟩ := F_law T
  refine fn_code F sc_law (fun vs H Q E h => ?_) (b_law F) (fun A outer s H vs Q E hr h => ⟨_, (pss_cons (ps_for passO rfl (pi_range1 (by rfl) (T.free (T.c.fact 16 (f := fFree "range") rfl)) (pa_cons (pe_callB (call_max2 rfl) (by rfl) (T.free (T.c.fact 68 (f := fFree "max") rfl)) (by decide +kernel) (pa_cons pe_int (pa_cons (pe_callB (call_min2 rfl) (by rfl) (T.free (T.c.fact 69 (f := fFree "min") rfl)) (by decide +kernel) (pa_cons pe_int (pa_cons (pe_callB call_len_seq (by rfl) (T.free (T.c.fact 0 (f := fFree "len") rfl)) (by decide +kernel) (pa_cons (pv 0) pa_nil)) pa_nil))) pa_nil))) pa_nil)) (pg_name (i := 1) sc_law.nd rfl (Or.inl rfl))
 (pss_cons (ps_set (i := 2) sc_law.nd rfl (Or.inl rfl) (pe_fn (ok_law_source T) (hr.mono (by decide)) rfl (g_law_source T) (k_law_source T) passD (pa_cons (pv 0) (pa_cons (pv 1) pa_nil))))
 (pss_one (ps_for passO rfl (pi_range1 (by rfl) (T.free (T.c.fact 16 (f := fFree "range") rfl)) (pa_cons pe_int pa_nil)) (pg_name (i := 3) sc_law.nd rfl (Or.inl rfl))
 (pss_cons (ps_set (i := 4) sc_law.nd rfl (Or.inl rfl) (pe_fn (ok_law_row T) (hr.mono (by decide)) rfl (g_law_row T) (k_law_row T) passD (pa_cons (pv 2) (pa_cons pe_int pa_nil))))
 (pss_cons (ps_if (PW.pt (pw_or (pt_not (pt_val (pe_fn (ok_law_read_right T B dn) (hr.mono (by decide)) rfl (g_law_read_right T) (k_law_read_right T) passD (pa_cons (pv 2) (pa_cons (pv 4) pa_nil))))) (pw_or1 (pt_not (pt_val (pe_fn (ok_law_longer_right T B dn) (hr.mono (by decide)) rfl (g_law_longer_right T) (k_law_longer_right T) passD (pa_cons (pv 2) (pa_cons (pv 4) pa_nil))))))))
 (pss_one (ps_ret pe_bl))
 pss_nil)
 (pss_cons (ps_set (i := 5) sc_law.nd rfl (Or.inl rfl) (pe_callTy call_list_n (by rfl) (T.free (T.c.fact 70 (f := fFree "list") rfl)) (by decide +kernel) (pa_cons (pv 4) pa_nil)))
 (pss_cons (ps_if (pt_cmpR (op_neD hr.r.units) (pv 5) (pe_lst pa_nil) (nomark _))
 (pss_one (ps_asg (pe_fn (ok_law_good_name T) (hr.mono (by decide)) rfl (g_law_good_name T) (k_law_good_name T) passD (pa_cons (pv 2) pa_nil)) (pg_sub (pv 5) (pe_fn (ok_law_next T) (hr.mono (by decide)) rfl (g_law_next T) (k_law_next T) passD (pa_cons (pv 2) (pa_cons (pe_callB call_len_lh (by rfl) (T.free (T.c.fact 0 (f := fFree "len") rfl)) (by decide +kernel) (pa_cons (pv 5) pa_nil)) pa_nil))) set_list)))
 pss_nil)
 (pss_one (ps_for passO rfl (pi_tup (pe_tup (pa_cons (pe_callTy call_list_n (by rfl) (T.free (T.c.fact 70 (f := fFree "list") rfl)) (by decide +kernel) (pa_cons (pv 4) pa_nil)) (pa_cons (pv 5) (pa_cons (pe_slice sl_list_n (pv 4) po_none (po_some (pe_un un_neg pe_int))) (pa_cons (pe_revL (pv 4)) (pa_cons (pe_fn (ok_law_row T) (hr.mono (by decide)) rfl (g_law_row T) (k_law_row T) passD (pa_cons (pv 2) (pa_cons pe_int pa_nil))) pa_nil))))))) (pg_name (i := 6) sc_law.nd rfl (Or.inl rfl))
 (pss_one (ps_if (pt_not (pt_val (pe_fn (ok_law_compared_right T) (hr.mono (by decide)) rfl (g_law_compared_right T) (k_law_compared_right T) passD (pa_cons (pv 4) (pa_cons (pv 6) pa_nil)))))
 (pss_one (ps_ret pe_bl))
 pss_nil))))))))))))
 (pss_one (ps_ret (pe_and (pe_cmpR (op_eqO (meth_ok (T.c.fact 48 (f := fMeth "Path" "__eq__") rfl)) (ok_Path_eq T) (hr.mono (by decide)) (Nat.lt_of_le_of_lt (Nat.le_add_right _ 64) hr.r.units) passD) (pe_op (op_binO (K' := K) (C := ga K "Path") rfl (ok_Path_floordiv (K := K) T) (hr.mono (by decide)) passD) (pe_op (op_binO (K' := K) (C := ga K "Path") rfl (ok_Path_floordiv (K := K) T) (hr.mono (by decide)) passD) (pe_mk (mkr_ok (T.c.fact 33 (f := fMkr "Path") rfl)) (ok_Path_init T) (hr.mono (by decide)) rfl (T.glo (T.c.fact 34 (f := fGlo "Path") rfl)) passD (pa_cons pe_str pa_nil)) pe_str) pe_str) (pe_mk (mkr_ok (T.c.fact 33 (f := fMkr "Path") rfl)) (ok_Path_init T) (hr.mono (by decide)) rfl (T.glo (T.c.fact 34 (f := fGlo "Path") rfl)) passD (pa_cons pe_str (pa_cons pe_str (pa_cons pe_str pa_nil)))) (nomark _)) (pe_and (pe_not (pe_cmpR (op_eqO (meth_ok (T.c.fact 48 (f := fMeth "Path" "__eq__") rfl)) (ok_Path_eq T) (hr.mono (by decide)) (Nat.lt_of_le_of_lt (Nat.le_add_right _ 64) hr.r.units) passD) (pe_mk (mkr_ok (T.c.fact 33 (f := fMkr "Path") rfl)) (ok_Path_init T) (hr.mono (by decide)) rfl (T.glo (T.c.fact 34 (f := fGlo "Path") rfl)) passD (pa_cons pe_str pa_nil)) (pe_mk0 (mkr_ok (T.c.fact 33 (f := fMkr "Path") rfl)) (ok_Path_init T) (hr.mono (by decide)) rfl (T.glo (T.c.fact 34 (f := fGlo "Path") rfl)) passD) (nomark _))) (pe_one (pe_cmpR op_eq (pe_callB (call_lenO (cls_ok (T.c.fact 14 (f := fCls "Path") rfl)) (meth_ok (T.c.fact 67 (f := fMeth "Path" "__len__") rfl)) (ok_Path_len T) (hr.mono (by decide)) passD) (by rfl) (T.free (T.c.fact 0 (f := fFree "len") rfl)) (by decide +kernel) (pa_cons (pe_mk0 (mkr_ok (T.c.fact 33 (f := fMkr "Path") rfl)) (ok_Path_init T) (hr.mono (by decide)) rfl (T.glo (T.c.fact 34 (f := fGlo "Path") rfl)) passD) pa_nil)) pe_int (nomark _)))))))), ?_⟩)
  · first | (obtain ⟨_, e, _⟩ := h; subst e; rfl) | (obtain ⟨_, _, e, _⟩ := h; subst e; rfl) | (obtain ⟨_, _, _, e, _⟩ := h; subst e; rfl) | (obtain ⟨_, _, _, _, e, _⟩ := h; subst e; rfl) | (obtain ⟨_, _, _, _, _, e, _⟩ := h; subst e; rfl) | (obtain ⟨_, _, _, _, _, _, e, _⟩ := h; subst e; rfl) | (obtain ⟨_, _, _, _, _, _, _, e, _⟩ := h; subst e; rfl) | (obtain ⟨_, _, _, _, _, _, _, _, e, _⟩ := h; subst e; rfl) | (obtain ⟨_, _, _, _, _, _, _, _, _, e, _⟩ := h; subst e; rfl) | (obtain ⟨_, _, _, _, _, _, _, _, _, _, e, _⟩ := h; subst e; rfl) | (obtain ⟨_, _, _, _, _, _, _, _, _, _, _, e, _⟩ := h; subst e; rfl)
  obtain ⟨L, ns, rfl, hn, hL, ht, q⟩ := h
  try simp only [cxK, r_lam, r_dnew, r_err, r_base, r_serr, r_var, r_c, r_seq, r_next, r_break, r_cont, r_drop, r_ret, r_retN, r_if, r_ife, r_asg, r_name, r_op, r_un, r_nil, r_cons, r_lst2, r_tup2, r_lc, r_for, r_ilist, r_itup, r_istr, r_irng1, r_irng2, r_ienum, r_ienumS, wipe, r_cb, r_test, r_b, r_not, r_notV, r_andV, r_orV, r_isN, r_notN, r_m1, r_m0, r_fld, sFld, putF, r_par, r_sub, r_gtup, r_gnil, r_gcons, r_sl, r_nopart, r_part, r_bm, r_bm0, r_chain, r_call, r_callK, r_meth, r_prop, r_make, r_and, r_or, andT_t, andT_f, orT_t, orT_f, ifK_t, ifK_f, ifE_t, ifE_f, andK_t, andK_f, orK_t, orK_f, L2.start, List.map_cons, List.map_nil, List.length_cons, List.length_nil, List.replicate_succ, List.replicate_zero, List.cons_append, List.nil_append, List.getElem?_cons_succ, List.getElem?_cons_zero, List.set_cons_succ, List.set_cons_zero, Nat.reduceAdd, Nat.reduceSub, Nat.zero_add, decide_true, decide_false, Bool.not_true, Bool.not_false, if_true, if_false, rEq, rNe, scal_ii, scal_ss, scal_bb, scal_is, scal_si, scal_ns, scal_ni, scal_in, scal_sn, scal_nn, rI, rI0, rU, rIxLH, rIxTH, rLenH, rLenTH, rSetL, rCatN, rTupOfN, rLstOfN, rSlLN, rSlTN, CDiv, CPow, CMul, CDivW, rNeNil, rLenO, rSplitN, rRepN, r_replC, rMulS, r_methK, rRepTN, r_cmK, rCmpO, rInO, r_ixO, r_revL, rInSelf, rCmpA, rBinO, Bool.false_xor, Bool.true_xor, r_starT, r_starL, r_cm, r_cval, selK_t, selK_f, rAppend, rIsK, reduceCtorEq, upd_same, at0, at1, at2, at3, at4, at5, at6, at7, at8, at9, at10, at11, at12, at13, ix3_0, ix3_1, ix3_2, V.int.injEq, V.bl.injEq, V.str.injEq, V.ref.injEq, Option.some.injEq, HO.lst.injEq, HO.tup.injEq, HO.ins.injEq, List.cons.injEq, and_true, true_and, exists_eq_left, exists_eq_left', exists_and_left, exists_eq', exists_eq, and_assoc, N_law]
  have hm : (ns.map V.int).length ≤ 63 := by simpa using hn
  refine ⟨_, Or.inl hL, by split <;> split <;> omega, by split <;> split <;> omega, ?_⟩
  refine forK_rng (LawPv K H L) ⟨none, none, none, none, none, none, rfl, LamX.ExtN.refl H, ht⟩ ?_ ?_
  · rintro i σ H1 hi ⟨v1, v2, v3, v4, v5, v6, rfl, s1, t1⟩
    have hi2 : i < 3 := by
      have : (if (if ((ns.map V.int).length : Int) < 3 then ((ns.map V.int).length : Int) else 3) > 1 then (if ((ns.map V.int).length : Int) < 3 then ((ns.map V.int).length : Int) else 3) else 1) ≤ 3 := by split <;> split <;> omega
      omega
    try simp only [cxK, r_lam, r_dnew, r_err, r_base, r_serr, r_var, r_c, r_seq, r_next, r_break, r_cont, r_drop, r_ret, r_retN, r_if, r_ife, r_asg, r_name, r_op, r_un, r_nil, r_cons, r_lst2, r_tup2, r_lc, r_for, r_ilist, r_itup, r_istr, r_irng1, r_irng2, r_ienum, r_ienumS, wipe, r_cb, r_test, r_b, r_not, r_notV, r_andV, r_orV, r_isN, r_notN, r_m1, r_m0, r_fld, sFld, putF, r_par, r_sub, r_gtup, r_gnil, r_gcons, r_sl, r_nopart, r_part, r_bm, r_bm0, r_chain, r_call, r_callK, r_meth, r_prop, r_make, r_and, r_or, andT_t, andT_f, orT_t, orT_f, ifK_t, ifK_f, ifE_t, ifE_f, andK_t, andK_f, orK_t, orK_f, L2.start, List.map_cons, List.map_nil, List.length_cons, List.length_nil, List.replicate_succ, List.replicate_zero, List.cons_append, List.nil_append, List.getElem?_cons_succ, List.getElem?_cons_zero, List.set_cons_succ, List.set_cons_zero, Nat.reduceAdd, Nat.reduceSub, Nat.zero_add, decide_true, decide_false, Bool.not_true, Bool.not_false, if_true, if_false, rEq, rNe, scal_ii, scal_ss, scal_bb, scal_is, scal_si, scal_ns, scal_ni, scal_in, scal_sn, scal_nn, rI, rI0, rU, rIxLH, rIxTH, rLenH, rLenTH, rSetL, rCatN, rTupOfN, rLstOfN, rSlLN, rSlTN, CDiv, CPow, CMul, CDivW, rNeNil, rLenO, rSplitN, rRepN, r_replC, rMulS, r_methK, rRepTN, r_cmK, rCmpO, rInO, r_ixO, r_revL, rInSelf, rCmpA, rBinO, Bool.false_xor, Bool.true_xor, r_starT, r_starL, r_cm, r_cval, selK_t, selK_f, rAppend, rIsK, reduceCtorEq, upd_same, at0, at1, at2, at3, at4, at5, at6, at7, at8, at9, at10, at11, at12, at13, ix3_0, ix3_1, ix3_2, V.int.injEq, V.bl.injEq, V.str.injEq, V.ref.injEq, Option.some.injEq, HO.lst.injEq, HO.tup.injEq, HO.ins.injEq, List.cons.injEq, and_true, true_and, exists_eq_left, exists_eq_left', exists_and_left, exists_eq', exists_eq, and_assoc, N_law]
    refine ⟨L, ns, _, rfl, sqL_ext hL s1, by omega, by omega, fun s H2 ns2 s2 hs2 => ?_⟩
    try simp only [cxK, r_lam, r_dnew, r_err, r_base, r_serr, r_var, r_c, r_seq, r_next, r_break, r_cont, r_drop, r_ret, r_retN, r_if, r_ife, r_asg, r_name, r_op, r_un, r_nil, r_cons, r_lst2, r_tup2, r_lc, r_for, r_ilist, r_itup, r_istr, r_irng1, r_irng2, r_ienum, r_ienumS, wipe, r_cb, r_test, r_b, r_not, r_notV, r_andV, r_orV, r_isN, r_notN, r_m1, r_m0, r_fld, sFld, putF, r_par, r_sub, r_gtup, r_gnil, r_gcons, r_sl, r_nopart, r_part, r_bm, r_bm0, r_chain, r_call, r_callK, r_meth, r_prop, r_make, r_and, r_or, andT_t, andT_f, orT_t, orT_f, ifK_t, ifK_f, ifE_t, ifE_f, andK_t, andK_f, orK_t, orK_f, L2.start, List.map_cons, List.map_nil, List.length_cons, List.length_nil, List.replicate_succ, List.replicate_zero, List.cons_append, List.nil_append, List.getElem?_cons_succ, List.getElem?_cons_zero, List.set_cons_succ, List.set_cons_zero, Nat.reduceAdd, Nat.reduceSub, Nat.zero_add, decide_true, decide_false, Bool.not_true, Bool.not_false, if_true, if_false, rEq, rNe, scal_ii, scal_ss, scal_bb, scal_is, scal_si, scal_ns, scal_ni, scal_in, scal_sn, scal_nn, rI, rI0, rU, rIxLH, rIxTH, rLenH, rLenTH, rSetL, rCatN, rTupOfN, rLstOfN, rSlLN, rSlTN, CDiv, CPow, CMul, CDivW, rNeNil, rLenO, rSplitN, rRepN, r_replC, rMulS, r_methK, rRepTN, r_cmK, rCmpO, rInO, r_ixO, r_revL, rInSelf, rCmpA, rBinO, Bool.false_xor, Bool.true_xor, r_starT, r_starL, r_cm, r_cval, selK_t, selK_f, rAppend, rIsK, reduceCtorEq, upd_same, at0, at1, at2, at3, at4, at5, at6, at7, at8, at9, at10, at11, at12, at13, ix3_0, ix3_1, ix3_2, V.int.injEq, V.bl.injEq, V.str.injEq, V.ref.injEq, Option.some.injEq, HO.lst.injEq, HO.tup.injEq, HO.ins.injEq, List.cons.injEq, and_true, true_and, exists_eq_left, exists_eq_left', exists_and_left, exists_eq', exists_eq, and_assoc, N_law]
    refine ⟨by decide, by decide, ?_⟩
    refine forK_rng (LawPw K H1 L (0 + i) s) ⟨v3, v4, v5, v6, _, rfl, ext_same s2, tabs_same t1 s2, hs2, by omega⟩ ?_ ?_
    · rintro i2 σ H3 hi3 ⟨v3, v4, v5, v6, j, rfl, s3, t3, hs3, hj⟩
      have hi4 : i2 < 4 := hi3
      try simp only [cxK, r_lam, r_dnew, r_err, r_base, r_serr, r_var, r_c, r_seq, r_next, r_break, r_cont, r_drop, r_ret, r_retN, r_if, r_ife, r_asg, r_name, r_op, r_un, r_nil, r_cons, r_lst2, r_tup2, r_lc, r_for, r_ilist, r_itup, r_istr, r_irng1, r_irng2, r_ienum, r_ienumS, wipe, r_cb, r_test, r_b, r_not, r_notV, r_andV, r_orV, r_isN, r_notN, r_m1, r_m0, r_fld, sFld, putF, r_par, r_sub, r_gtup, r_gnil, r_gcons, r_sl, r_nopart, r_part, r_bm, r_bm0, r_chain, r_call, r_callK, r_meth, r_prop, r_make, r_and, r_or, andT_t, andT_f, orT_t, orT_f, ifK_t, ifK_f, ifE_t, ifE_f, andK_t, andK_f, orK_t, orK_f, L2.start, List.map_cons, List.map_nil, List.length_cons, List.length_nil, List.replicate_succ, List.replicate_zero, List.cons_append, List.nil_append, List.getElem?_cons_succ, List.getElem?_cons_zero, List.set_cons_succ, List.set_cons_zero, Nat.reduceAdd, Nat.reduceSub, Nat.zero_add, decide_true, decide_false, Bool.not_true, Bool.not_false, if_true, if_false, rEq, rNe, scal_ii, scal_ss, scal_bb, scal_is, scal_si, scal_ns, scal_ni, scal_in, scal_sn, scal_nn, rI, rI0, rU, rIxLH, rIxTH, rLenH, rLenTH, rSetL, rCatN, rTupOfN, rLstOfN, rSlLN, rSlTN, CDiv, CPow, CMul, CDivW, rNeNil, rLenO, rSplitN, rRepN, r_replC, rMulS, r_methK, rRepTN, r_cmK, rCmpO, rInO, r_ixO, r_revL, rInSelf, rCmpA, rBinO, Bool.false_xor, Bool.true_xor, r_starT, r_starL, r_cm, r_cval, selK_t, selK_f, rAppend, rIsK, reduceCtorEq, upd_same, at0, at1, at2, at3, at4, at5, at6, at7, at8, at9, at10, at11, at12, at13, ix3_0, ix3_1, ix3_2, V.int.injEq, V.bl.injEq, V.str.injEq, V.ref.injEq, Option.some.injEq, HO.lst.injEq, HO.tup.injEq, HO.ins.injEq, List.cons.injEq, and_true, true_and, exists_eq_left, exists_eq_left', exists_and_left, exists_eq', exists_eq, and_assoc, N_law]
      refine ⟨s, 12, j, rfl, by decide, by decide, hs3, by omega, fun xs l j2 H4 hlen hnm hl0 j3 j4 o4 hs4 hl4 => ?_⟩
      have x12 : xs.length ≤ 12 := by omega
      have lne : l ≠ s := src_ne hs4 hl4
      have t4 : LamX.Tabs (TL lm K) H4 := let ⟨c, d, e, _⟩ := hs3; tabs_oth t3 o4 e
      try simp only [cxK, r_lam, r_dnew, r_err, r_base, r_serr, r_var, r_c, r_seq, r_next, r_break, r_cont, r_drop, r_ret, r_retN, r_if, r_ife, r_asg, r_name, r_op, r_un, r_nil, r_cons, r_lst2, r_tup2, r_lc, r_for, r_ilist, r_itup, r_istr, r_irng1, r_irng2, r_ienum, r_ienumS, wipe, r_cb, r_test, r_b, r_not, r_notV, r_andV, r_orV, r_isN, r_notN, r_m1, r_m0, r_fld, sFld, putF, r_par, r_sub, r_gtup, r_gnil, r_gcons, r_sl, r_nopart, r_part, r_bm, r_bm0, r_chain, r_call, r_callK, r_meth, r_prop, r_make, r_and, r_or, andT_t, andT_f, orT_t, orT_f, ifK_t, ifK_f, ifE_t, ifE_f, andK_t, andK_f, orK_t, orK_f, L2.start, List.map_cons, List.map_nil, List.length_cons, List.length_nil, List.replicate_succ, List.replicate_zero, List.cons_append, List.nil_append, List.getElem?_cons_succ, List.getElem?_cons_zero, List.set_cons_succ, List.set_cons_zero, Nat.reduceAdd, Nat.reduceSub, Nat.zero_add, decide_true, decide_false, Bool.not_true, Bool.not_false, if_true, if_false, rEq, rNe, scal_ii, scal_ss, scal_bb, scal_is, scal_si, scal_ns, scal_ni, scal_in, scal_sn, scal_nn, rI, rI0, rU, rIxLH, rIxTH, rLenH, rLenTH, rSetL, rCatN, rTupOfN, rLstOfN, rSlLN, rSlTN, CDiv, CPow, CMul, CDivW, rNeNil, rLenO, rSplitN, rRepN, r_replC, rMulS, r_methK, rRepTN, r_cmK, rCmpO, rInO, r_ixO, r_revL, rInSelf, rCmpA, rBinO, Bool.false_xor, Bool.true_xor, r_starT, r_starL, r_cm, r_cval, selK_t, selK_f, rAppend, rIsK, reduceCtorEq, upd_same, at0, at1, at2, at3, at4, at5, at6, at7, at8, at9, at10, at11, at12, at13, ix3_0, ix3_1, ix3_2, V.int.injEq, V.bl.injEq, V.str.injEq, V.ref.injEq, Option.some.injEq, HO.lst.injEq, HO.tup.injEq, HO.ins.injEq, List.cons.injEq, and_true, true_and, exists_eq_left, exists_eq_left', exists_and_left, exists_eq', exists_eq, and_assoc, N_law]
      refine ⟨s, l, xs, j2, rfl, hs4, by omega, hl4, x12, hnm, t4, fun j5 H5 j6 j7 o5 t5 hs5 => ?_⟩
      have hl5 := o5 _ _ lne hl4 nofun
      try simp only [cxK, r_lam, r_dnew, r_err, r_base, r_serr, r_var, r_c, r_seq, r_next, r_break, r_cont, r_drop, r_ret, r_retN, r_if, r_ife, r_asg, r_name, r_op, r_un, r_nil, r_cons, r_lst2, r_tup2, r_lc, r_for, r_ilist, r_itup, r_istr, r_irng1, r_irng2, r_ienum, r_ienumS, wipe, r_cb, r_test, r_b, r_not, r_notV, r_andV, r_orV, r_isN, r_notN, r_m1, r_m0, r_fld, sFld, putF, r_par, r_sub, r_gtup, r_gnil, r_gcons, r_sl, r_nopart, r_part, r_bm, r_bm0, r_chain, r_call, r_callK, r_meth, r_prop, r_make, r_and, r_or, andT_t, andT_f, orT_t, orT_f, ifK_t, ifK_f, ifE_t, ifE_f, andK_t, andK_f, orK_t, orK_f, L2.start, List.map_cons, List.map_nil, List.length_cons, List.length_nil, List.replicate_succ, List.replicate_zero, List.cons_append, List.nil_append, List.getElem?_cons_succ, List.getElem?_cons_zero, List.set_cons_succ, List.set_cons_zero, Nat.reduceAdd, Nat.reduceSub, Nat.zero_add, decide_true, decide_false, Bool.not_true, Bool.not_false, if_true, if_false, rEq, rNe, scal_ii, scal_ss, scal_bb, scal_is, scal_si, scal_ns, scal_ni, scal_in, scal_sn, scal_nn, rI, rI0, rU, rIxLH, rIxTH, rLenH, rLenTH, rSetL, rCatN, rTupOfN, rLstOfN, rSlLN, rSlTN, CDiv, CPow, CMul, CDivW, rNeNil, rLenO, rSplitN, rRepN, r_replC, rMulS, r_methK, rRepTN, r_cmK, rCmpO, rInO, r_ixO, r_revL, rInSelf, rCmpA, rBinO, Bool.false_xor, Bool.true_xor, r_starT, r_starL, r_cm, r_cval, selK_t, selK_f, rAppend, rIsK, reduceCtorEq, upd_same, at0, at1, at2, at3, at4, at5, at6, at7, at8, at9, at10, at11, at12, at13, ix3_0, ix3_1, ix3_2, V.int.injEq, V.bl.injEq, V.str.injEq, V.ref.injEq, Option.some.injEq, HO.lst.injEq, HO.tup.injEq, HO.ins.injEq, List.cons.injEq, and_true, true_and, exists_eq_left, exists_eq_left', exists_and_left, exists_eq', exists_eq, and_assoc, N_law]
      refine ⟨s, l, xs, j5, rfl, hs5, by omega, hl5, x12, hnm, t5, fun j8 H6 j9 j10 o6 t6 hs6 => ?_⟩
      have hl6 := o6 _ _ lne hl5 nofun
      try simp only [cxK, r_lam, r_dnew, r_err, r_base, r_serr, r_var, r_c, r_seq, r_next, r_break, r_cont, r_drop, r_ret, r_retN, r_if, r_ife, r_asg, r_name, r_op, r_un, r_nil, r_cons, r_lst2, r_tup2, r_lc, r_for, r_ilist, r_itup, r_istr, r_irng1, r_irng2, r_ienum, r_ienumS, wipe, r_cb, r_test, r_b, r_not, r_notV, r_andV, r_orV, r_isN, r_notN, r_m1, r_m0, r_fld, sFld, putF, r_par, r_sub, r_gtup, r_gnil, r_gcons, r_sl, r_nopart, r_part, r_bm, r_bm0, r_chain, r_call, r_callK, r_meth, r_prop, r_make, r_and, r_or, andT_t, andT_f, orT_t, orT_f, ifK_t, ifK_f, ifE_t, ifE_f, andK_t, andK_f, orK_t, orK_f, L2.start, List.map_cons, List.map_nil, List.length_cons, List.length_nil, List.replicate_succ, List.replicate_zero, List.cons_append, List.nil_append, List.getElem?_cons_succ, List.getElem?_cons_zero, List.set_cons_succ, List.set_cons_zero, Nat.reduceAdd, Nat.reduceSub, Nat.zero_add, decide_true, decide_false, Bool.not_true, Bool.not_false, if_true, if_false, rEq, rNe, scal_ii, scal_ss, scal_bb, scal_is, scal_si, scal_ns, scal_ni, scal_in, scal_sn, scal_nn, rI, rI0, rU, rIxLH, rIxTH, rLenH, rLenTH, rSetL, rCatN, rTupOfN, rLstOfN, rSlLN, rSlTN, CDiv, CPow, CMul, CDivW, rNeNil, rLenO, rSplitN, rRepN, r_replC, rMulS, r_methK, rRepTN, r_cmK, rCmpO, rInO, r_ixO, r_revL, rInSelf, rCmpA, rBinO, Bool.false_xor, Bool.true_xor, r_starT, r_starL, r_cm, r_cval, selK_t, selK_f, rAppend, rIsK, reduceCtorEq, upd_same, at0, at1, at2, at3, at4, at5, at6, at7, at8, at9, at10, at11, at12, at13, ix3_0, ix3_1, ix3_2, V.int.injEq, V.bl.injEq, V.str.injEq, V.ref.injEq, Option.some.injEq, HO.lst.injEq, HO.tup.injEq, HO.ins.injEq, List.cons.injEq, and_true, true_and, exists_eq_left, exists_eq_left', exists_and_left, exists_eq', exists_eq, and_assoc, N_law, hl6]
      intro p1 H7 n7
      have hl7 := n7.old hl6
      have hp7 := n7.at_
      try simp only [cxK, r_lam, r_dnew, r_err, r_base, r_serr, r_var, r_c, r_seq, r_next, r_break, r_cont, r_drop, r_ret, r_retN, r_if, r_ife, r_asg, r_name, r_op, r_un, r_nil, r_cons, r_lst2, r_tup2, r_lc, r_for, r_ilist, r_itup, r_istr, r_irng1, r_irng2, r_ienum, r_ienumS, wipe, r_cb, r_test, r_b, r_not, r_notV, r_andV, r_orV, r_isN, r_notN, r_m1, r_m0, r_fld, sFld, putF, r_par, r_sub, r_gtup, r_gnil, r_gcons, r_sl, r_nopart, r_part, r_bm, r_bm0, r_chain, r_call, r_callK, r_meth, r_prop, r_make, r_and, r_or, andT_t, andT_f, orT_t, orT_f, ifK_t, ifK_f, ifE_t, ifE_f, andK_t, andK_f, orK_t, orK_f, L2.start, List.map_cons, List.map_nil, List.length_cons, List.length_nil, List.replicate_succ, List.replicate_zero, List.cons_append, List.nil_append, List.getElem?_cons_succ, List.getElem?_cons_zero, List.set_cons_succ, List.set_cons_zero, Nat.reduceAdd, Nat.reduceSub, Nat.zero_add, decide_true, decide_false, Bool.not_true, Bool.not_false, if_true, if_false, rEq, rNe, scal_ii, scal_ss, scal_bb, scal_is, scal_si, scal_ns, scal_ni, scal_in, scal_sn, scal_nn, rI, rI0, rU, rIxLH, rIxTH, rLenH, rLenTH, rSetL, rCatN, rTupOfN, rLstOfN, rSlLN, rSlTN, CDiv, CPow, CMul, CDivW, rNeNil, rLenO, rSplitN, rRepN, r_replC, rMulS, r_methK, rRepTN, r_cmK, rCmpO, rInO, r_ixO, r_revL, rInSelf, rCmpA, rBinO, Bool.false_xor, Bool.true_xor, r_starT, r_starL, r_cm, r_cval, selK_t, selK_f, rAppend, rIsK, reduceCtorEq, upd_same, at0, at1, at2, at3, at4, at5, at6, at7, at8, at9, at10, at11, at12, at13, ix3_0, ix3_1, ix3_2, V.int.injEq, V.bl.injEq, V.str.injEq, V.ref.injEq, Option.some.injEq, HO.lst.injEq, HO.tup.injEq, HO.ins.injEq, List.cons.injEq, and_true, true_and, exists_eq_left, exists_eq_left', exists_and_left, exists_eq', exists_eq, and_assoc, N_law, hl7]
      refine ⟨fits (by decide), fun p2 H8 n8 => ?_⟩
      have hl8 := n8.old hl7
      have hp8 := n8.old hp7
      have okX : ∀ x ∈ xs, PyData.strOk x = true := fun x hx => (isNm_fits (hnm x hx)).2.1
      refine neD_strL (ys := []) hp8 n8.at_ okX nofun ?_
      have s68 := same_trans n7.same n8.same
      have hs8 := hs6.same s68
      have p1s : p1 ≠ s := fun e => hs6.ne n7.1 e.symm
      have p1l : p1 ≠ l := fun e => by rw [← e, n7.1] at hl6; cases hl6
      have o36 : OthN s H3 H6 := (OthN.of o4).trans (o5.trans o6)
      have o38 : OthN s H3 H8 := o36.trans (OthN.same s68)
      have t8 := tabs_same t6 s68
      refine ⟨_, rfl, ?_⟩
      refine ifK_gen (P := fun σ' G => ∃ (ys : List Str) (j11 : Int), σ' = [some (V.ref L), some (V.int (0 + i)), some (V.ref s), some (V.int (0 + i2)), some (V.ref l), some (V.ref p1), v6] ∧ G p1 = some (.lst (ys.map V.str)) ∧ ys.length ≤ 12 ∧ (∀ x ∈ ys, isNm x = true) ∧ G l = some (.lst (xs.map V.str)) ∧ OthN s H3 G ∧ LamX.Tabs (TL lm K) G ∧ Src G s j11 ∧ j11 ≤ j8 + 2) (fun N hN => ?_) ?_
      · by_cases hx0 : xs = []
        · rw [decide_eq_true hx0]
          try simp only [cxK, r_lam, r_dnew, r_err, r_base, r_serr, r_var, r_c, r_seq, r_next, r_break, r_cont, r_drop, r_ret, r_retN, r_if, r_ife, r_asg, r_name, r_op, r_un, r_nil, r_cons, r_lst2, r_tup2, r_lc, r_for, r_ilist, r_itup, r_istr, r_irng1, r_irng2, r_ienum, r_ienumS, wipe, r_cb, r_test, r_b, r_not, r_notV, r_andV, r_orV, r_isN, r_notN, r_m1, r_m0, r_fld, sFld, putF, r_par, r_sub, r_gtup, r_gnil, r_gcons, r_sl, r_nopart, r_part, r_bm, r_bm0, r_chain, r_call, r_callK, r_meth, r_prop, r_make, r_and, r_or, andT_t, andT_f, orT_t, orT_f, ifK_t, ifK_f, ifE_t, ifE_f, andK_t, andK_f, orK_t, orK_f, L2.start, List.map_cons, List.map_nil, List.length_cons, List.length_nil, List.replicate_succ, List.replicate_zero, List.cons_append, List.nil_append, List.getElem?_cons_succ, List.getElem?_cons_zero, List.set_cons_succ, List.set_cons_zero, Nat.reduceAdd, Nat.reduceSub, Nat.zero_add, decide_true, decide_false, Bool.not_true, Bool.not_false, if_true, if_false, rEq, rNe, scal_ii, scal_ss, scal_bb, scal_is, scal_si, scal_ns, scal_ni, scal_in, scal_sn, scal_nn, rI, rI0, rU, rIxLH, rIxTH, rLenH, rLenTH, rSetL, rCatN, rTupOfN, rLstOfN, rSlLN, rSlTN, CDiv, CPow, CMul, CDivW, rNeNil, rLenO, rSplitN, rRepN, r_replC, rMulS, r_methK, rRepTN, r_cmK, rCmpO, rInO, r_ixO, r_revL, rInSelf, rCmpA, rBinO, Bool.false_xor, Bool.true_xor, r_starT, r_starL, r_cm, r_cval, selK_t, selK_f, rAppend, rIsK, reduceCtorEq, upd_same, at0, at1, at2, at3, at4, at5, at6, at7, at8, at9, at10, at11, at12, at13, ix3_0, ix3_1, ix3_2, V.int.injEq, V.bl.injEq, V.str.injEq, V.ref.injEq, Option.some.injEq, HO.lst.injEq, HO.tup.injEq, HO.ins.injEq, List.cons.injEq, and_true, true_and, exists_eq_left, exists_eq_left', exists_and_left, exists_eq', exists_eq, and_assoc, N_law]
          exact hN _ _ ⟨xs, j8, rfl, hp8, x12, hnm, hl8, o38, t8, hs8, by omega⟩
        · rw [decide_eq_false hx0]
          try simp only [cxK, r_lam, r_dnew, r_err, r_base, r_serr, r_var, r_c, r_seq, r_next, r_break, r_cont, r_drop, r_ret, r_retN, r_if, r_ife, r_asg, r_name, r_op, r_un, r_nil, r_cons, r_lst2, r_tup2, r_lc, r_for, r_ilist, r_itup, r_istr, r_irng1, r_irng2, r_ienum, r_ienumS, wipe, r_cb, r_test, r_b, r_not, r_notV, r_andV, r_orV, r_isN, r_notN, r_m1, r_m0, r_fld, sFld, putF, r_par, r_sub, r_gtup, r_gnil, r_gcons, r_sl, r_nopart, r_part, r_bm, r_bm0, r_chain, r_call, r_callK, r_meth, r_prop, r_make, r_and, r_or, andT_t, andT_f, orT_t, orT_f, ifK_t, ifK_f, ifE_t, ifE_f, andK_t, andK_f, orK_t, orK_f, L2.start, List.map_cons, List.map_nil, List.length_cons, List.length_nil, List.replicate_succ, List.replicate_zero, List.cons_append, List.nil_append, List.getElem?_cons_succ, List.getElem?_cons_zero, List.set_cons_succ, List.set_cons_zero, Nat.reduceAdd, Nat.reduceSub, Nat.zero_add, decide_true, decide_false, Bool.not_true, Bool.not_false, if_true, if_false, rEq, rNe, scal_ii, scal_ss, scal_bb, scal_is, scal_si, scal_ns, scal_ni, scal_in, scal_sn, scal_nn, rI, rI0, rU, rIxLH, rIxTH, rLenH, rLenTH, rSetL, rCatN, rTupOfN, rLstOfN, rSlLN, rSlTN, CDiv, CPow, CMul, CDivW, rNeNil, rLenO, rSplitN, rRepN, r_replC, rMulS, r_methK, rRepTN, r_cmK, rCmpO, rInO, r_ixO, r_revL, rInSelf, rCmpA, rBinO, Bool.false_xor, Bool.true_xor, r_starT, r_starL, r_cm, r_cval, selK_t, selK_f, rAppend, rIsK, reduceCtorEq, upd_same, at0, at1, at2, at3, at4, at5, at6, at7, at8, at9, at10, at11, at12, at13, ix3_0, ix3_1, ix3_2, V.int.injEq, V.bl.injEq, V.str.injEq, V.ref.injEq, Option.some.injEq, HO.lst.injEq, HO.tup.injEq, HO.ins.injEq, List.cons.injEq, and_true, true_and, exists_eq_left, exists_eq_left', exists_and_left, exists_eq', exists_eq, and_assoc, N_law]
          refine ⟨s, j8, rfl, hs8, by omega, fun z j11 H9 hz j12 j13 o9 hs9 => ?_⟩
          have hp9 := o9 _ _ p1s hp8
          try simp only [cxK, r_lam, r_dnew, r_err, r_base, r_serr, r_var, r_c, r_seq, r_next, r_break, r_cont, r_drop, r_ret, r_retN, r_if, r_ife, r_asg, r_name, r_op, r_un, r_nil, r_cons, r_lst2, r_tup2, r_lc, r_for, r_ilist, r_itup, r_istr, r_irng1, r_irng2, r_ienum, r_ienumS, wipe, r_cb, r_test, r_b, r_not, r_notV, r_andV, r_orV, r_isN, r_notN, r_m1, r_m0, r_fld, sFld, putF, r_par, r_sub, r_gtup, r_gnil, r_gcons, r_sl, r_nopart, r_part, r_bm, r_bm0, r_chain, r_call, r_callK, r_meth, r_prop, r_make, r_and, r_or, andT_t, andT_f, orT_t, orT_f, ifK_t, ifK_f, ifE_t, ifE_f, andK_t, andK_f, orK_t, orK_f, L2.start, List.map_cons, List.map_nil, List.length_cons, List.length_nil, List.replicate_succ, List.replicate_zero, List.cons_append, List.nil_append, List.getElem?_cons_succ, List.getElem?_cons_zero, List.set_cons_succ, List.set_cons_zero, Nat.reduceAdd, Nat.reduceSub, Nat.zero_add, decide_true, decide_false, Bool.not_true, Bool.not_false, if_true, if_false, rEq, rNe, scal_ii, scal_ss, scal_bb, scal_is, scal_si, scal_ns, scal_ni, scal_in, scal_sn, scal_nn, rI, rI0, rU, rIxLH, rIxTH, rLenH, rLenTH, rSetL, rCatN, rTupOfN, rLstOfN, rSlLN, rSlTN, CDiv, CPow, CMul, CDivW, rNeNil, rLenO, rSplitN, rRepN, r_replC, rMulS, r_methK, rRepTN, r_cmK, rCmpO, rInO, r_ixO, r_revL, rInSelf, rCmpA, rBinO, Bool.false_xor, Bool.true_xor, r_starT, r_starL, r_cm, r_cval, selK_t, selK_f, rAppend, rIsK, reduceCtorEq, upd_same, at0, at1, at2, at3, at4, at5, at6, at7, at8, at9, at10, at11, at12, at13, ix3_0, ix3_1, ix3_2, V.int.injEq, V.bl.injEq, V.str.injEq, V.ref.injEq, Option.some.injEq, HO.lst.injEq, HO.tup.injEq, HO.ins.injEq, List.cons.injEq, and_true, true_and, exists_eq_left, exists_eq_left', exists_and_left, exists_eq', exists_eq, and_assoc, N_law, hp9]
          have hpos : 0 < xs.length := List.length_pos_iff.mpr hx0
          have ha8 : ∃ ys, H8 s = some (.lst ys) := let ⟨c, d, e, _⟩ := hs8; ⟨_, e⟩
          obtain ⟨ys8, ha8⟩ := ha8
          have ha9 : ∃ ys, H9 s = some (.lst ys) := let ⟨c, d, e, _⟩ := hs9; ⟨_, e⟩
          obtain ⟨ys9, ha9⟩ := ha9
          refine ⟨s, _, j11, rfl, by simp; omega, by simp; omega, hs9, by omega, fun r j14 G r0 r1 j15 j16 o10 hs10 => ?_⟩
          obtain ⟨m, rfl⟩ : ∃ m : Nat, r = (m : Int) := ⟨r.toNat, by omega⟩
          have hp10 := o10 _ _ p1s hp9
          refine ⟨_, _, rfl, hp10, m, (by have r1' : m < xs.length := (by simpa using r1); unfold ixN; simp; omega), hN _ _ ⟨xs.set m z, j14, rfl, ?_, by rw [List.length_set]; exact x12, fun x hx => ?_, ?_, ?_, tabs_oth (tabs_oth (tabs_oth t8 o9 ha8) o10 ha9) (Oth.set (a := p1) .refl) hp10, hs10.upd (.inr (Ne.symm p1s)), by omega⟩⟩
          · rw [upd_same, List.map_set]
          · rcases List.mem_or_eq_of_mem_set hx with h | h
            · exact hnm x h
            · rw [h]
              exact hz
          · rw [upd_ne (Ne.symm p1l)]
            exact o10 _ _ lne (o9 _ _ lne hl8)
          · intro b o nb hb nt
            have z6 := o36 b o nb hb nt
            rw [upd_ne (fun e => by rw [e, n7.1] at z6; cases z6)]
            exact (o38.trans (OthN.of (Oth.trans o9 o10))) b o nb hb nt
      · rintro σ' G ⟨ys, j11, rfl, hpG, y12, hym, hlG, oG, tG, hsG, jG⟩
        dsimp only
        try simp only [cxK, r_lam, r_dnew, r_err, r_base, r_serr, r_var, r_c, r_seq, r_next, r_break, r_cont, r_drop, r_ret, r_retN, r_if, r_ife, r_asg, r_name, r_op, r_un, r_nil, r_cons, r_lst2, r_tup2, r_lc, r_for, r_ilist, r_itup, r_istr, r_irng1, r_irng2, r_ienum, r_ienumS, wipe, r_cb, r_test, r_b, r_not, r_notV, r_andV, r_orV, r_isN, r_notN, r_m1, r_m0, r_fld, sFld, putF, r_par, r_sub, r_gtup, r_gnil, r_gcons, r_sl, r_nopart, r_part, r_bm, r_bm0, r_chain, r_call, r_callK, r_meth, r_prop, r_make, r_and, r_or, andT_t, andT_f, orT_t, orT_f, ifK_t, ifK_f, ifE_t, ifE_f, andK_t, andK_f, orK_t, orK_f, L2.start, List.map_cons, List.map_nil, List.length_cons, List.length_nil, List.replicate_succ, List.replicate_zero, List.cons_append, List.nil_append, List.getElem?_cons_succ, List.getElem?_cons_zero, List.set_cons_succ, List.set_cons_zero, Nat.reduceAdd, Nat.reduceSub, Nat.zero_add, decide_true, decide_false, Bool.not_true, Bool.not_false, if_true, if_false, rEq, rNe, scal_ii, scal_ss, scal_bb, scal_is, scal_si, scal_ns, scal_ni, scal_in, scal_sn, scal_nn, rI, rI0, rU, rIxLH, rIxTH, rLenH, rLenTH, rSetL, rCatN, rTupOfN, rLstOfN, rSlLN, rSlTN, CDiv, CPow, CMul, CDivW, rNeNil, rLenO, rSplitN, rRepN, r_replC, rMulS, r_methK, rRepTN, r_cmK, rCmpO, rInO, r_ixO, r_revL, rInSelf, rCmpA, rBinO, Bool.false_xor, Bool.true_xor, r_starT, r_starL, r_cm, r_cval, selK_t, selK_f, rAppend, rIsK, reduceCtorEq, upd_same, at0, at1, at2, at3, at4, at5, at6, at7, at8, at9, at10, at11, at12, at13, ix3_0, ix3_1, ix3_2, V.int.injEq, V.bl.injEq, V.str.injEq, V.ref.injEq, Option.some.injEq, HO.lst.injEq, HO.tup.injEq, HO.ins.injEq, List.cons.injEq, and_true, true_and, exists_eq_left, exists_eq_left', exists_and_left, exists_eq', exists_eq, and_assoc, N_law, hlG]
        intro p2 G1 g1
        have hl1 := g1.old hlG
        try simp only [cxK, r_lam, r_dnew, r_err, r_base, r_serr, r_var, r_c, r_seq, r_next, r_break, r_cont, r_drop, r_ret, r_retN, r_if, r_ife, r_asg, r_name, r_op, r_un, r_nil, r_cons, r_lst2, r_tup2, r_lc, r_for, r_ilist, r_itup, r_istr, r_irng1, r_irng2, r_ienum, r_ienumS, wipe, r_cb, r_test, r_b, r_not, r_notV, r_andV, r_orV, r_isN, r_notN, r_m1, r_m0, r_fld, sFld, putF, r_par, r_sub, r_gtup, r_gnil, r_gcons, r_sl, r_nopart, r_part, r_bm, r_bm0, r_chain, r_call, r_callK, r_meth, r_prop, r_make, r_and, r_or, andT_t, andT_f, orT_t, orT_f, ifK_t, ifK_f, ifE_t, ifE_f, andK_t, andK_f, orK_t, orK_f, L2.start, List.map_cons, List.map_nil, List.length_cons, List.length_nil, List.replicate_succ, List.replicate_zero, List.cons_append, List.nil_append, List.getElem?_cons_succ, List.getElem?_cons_zero, List.set_cons_succ, List.set_cons_zero, Nat.reduceAdd, Nat.reduceSub, Nat.zero_add, decide_true, decide_false, Bool.not_true, Bool.not_false, if_true, if_false, rEq, rNe, scal_ii, scal_ss, scal_bb, scal_is, scal_si, scal_ns, scal_ni, scal_in, scal_sn, scal_nn, rI, rI0, rU, rIxLH, rIxTH, rLenH, rLenTH, rSetL, rCatN, rTupOfN, rLstOfN, rSlLN, rSlTN, CDiv, CPow, CMul, CDivW, rNeNil, rLenO, rSplitN, rRepN, r_replC, rMulS, r_methK, rRepTN, r_cmK, rCmpO, rInO, r_ixO, r_revL, rInSelf, rCmpA, rBinO, Bool.false_xor, Bool.true_xor, r_starT, r_starL, r_cm, r_cval, selK_t, selK_f, rAppend, rIsK, reduceCtorEq, upd_same, at0, at1, at2, at3, at4, at5, at6, at7, at8, at9, at10, at11, at12, at13, ix3_0, ix3_1, ix3_2, V.int.injEq, V.bl.injEq, V.str.injEq, V.ref.injEq, Option.some.injEq, HO.lst.injEq, HO.tup.injEq, HO.ins.injEq, List.cons.injEq, and_true, true_and, exists_eq_left, exists_eq_left', exists_and_left, exists_eq', exists_eq, and_assoc, N_law, hl1]
        intro p3 G2 g2
        have hl2 := g2.old hl1
        refine ⟨_, SqL.of hl2, fun p4 np4 => ?_⟩
        obtain ⟨G3, eG3⟩ : ∃ G3, G3 = upd G2 p4 (.lst (xs.map V.str).reverse) := ⟨_, rfl⟩
        have g3 : IsNew G2 p4 (.lst (xs.map V.str).reverse) G3 := ⟨np4, eG3⟩
        rw [← eG3]
        have sG3 := same_trans g1.same (same_trans g2.same g3.same)
        refine ⟨s, 12, j11, rfl, by decide, by decide, hsG.same sG3, by omega, fun zs p5 j12 G4 hzlen hzm hp50 j13 j14 o13 hs14 hp5 => ?_⟩
        try simp only [cxK, r_lam, r_dnew, r_err, r_base, r_serr, r_var, r_c, r_seq, r_next, r_break, r_cont, r_drop, r_ret, r_retN, r_if, r_ife, r_asg, r_name, r_op, r_un, r_nil, r_cons, r_lst2, r_tup2, r_lc, r_for, r_ilist, r_itup, r_istr, r_irng1, r_irng2, r_ienum, r_ienumS, wipe, r_cb, r_test, r_b, r_not, r_notV, r_andV, r_orV, r_isN, r_notN, r_m1, r_m0, r_fld, sFld, putF, r_par, r_sub, r_gtup, r_gnil, r_gcons, r_sl, r_nopart, r_part, r_bm, r_bm0, r_chain, r_call, r_callK, r_meth, r_prop, r_make, r_and, r_or, andT_t, andT_f, orT_t, orT_f, ifK_t, ifK_f, ifE_t, ifE_f, andK_t, andK_f, orK_t, orK_f, L2.start, List.map_cons, List.map_nil, List.length_cons, List.length_nil, List.replicate_succ, List.replicate_zero, List.cons_append, List.nil_append, List.getElem?_cons_succ, List.getElem?_cons_zero, List.set_cons_succ, List.set_cons_zero, Nat.reduceAdd, Nat.reduceSub, Nat.zero_add, decide_true, decide_false, Bool.not_true, Bool.not_false, if_true, if_false, rEq, rNe, scal_ii, scal_ss, scal_bb, scal_is, scal_si, scal_ns, scal_ni, scal_in, scal_sn, scal_nn, rI, rI0, rU, rIxLH, rIxTH, rLenH, rLenTH, rSetL, rCatN, rTupOfN, rLstOfN, rSlLN, rSlTN, CDiv, CPow, CMul, CDivW, rNeNil, rLenO, rSplitN, rRepN, r_replC, rMulS, r_methK, rRepTN, r_cmK, rCmpO, rInO, r_ixO, r_revL, rInSelf, rCmpA, rBinO, Bool.false_xor, Bool.true_xor, r_starT, r_starL, r_cm, r_cval, selK_t, selK_f, rAppend, rIsK, reduceCtorEq, upd_same, at0, at1, at2, at3, at4, at5, at6, at7, at8, at9, at10, at11, at12, at13, ix3_0, ix3_1, ix3_2, V.int.injEq, V.bl.injEq, V.str.injEq, V.ref.injEq, Option.some.injEq, HO.lst.injEq, HO.tup.injEq, HO.ins.injEq, List.cons.injEq, and_true, true_and, exists_eq_left, exists_eq_left', exists_and_left, exists_eq', exists_eq, and_assoc, N_law]
        refine ⟨fits (by decide), fun tp G5 g5 => ⟨⟨_, SqT.of g5.at_⟩, ?_⟩⟩
        have up : ∀ {q : Addr} {ws : List Str}, G3 q = some (.lst (ws.map V.str)) → G5 q = some (.lst (ws.map V.str)) := fun {q ws} h => g5.old (o13 _ _ (src_ne (hsG.same sG3) h) h)
        have e1 : G3 p2 = some (.lst (xs.map V.str)) := g3.old (g2.old g1.at_)
        have e2 : G3 p1 = some (.lst (ys.map V.str)) := sG3 _ _ hpG
        have e3 : G3 p3 = some (.lst ((xs.take (xs.length - 1)).map V.str)) := by
          have z := g3.old g2.at_
          rw [cut_front, List.length_map, ← List.map_take] at z
          exact z
        have e4 : G3 p4 = some (.lst (xs.reverse.map V.str)) := by
          rw [g3.at_, List.map_reverse]
        have el := up (sG3 _ _ hlG)
        have all5 : ∀ v ∈ ([.ref p2, .ref p1, .ref p3, .ref p4, .ref p5] : List V), NL G5 v := by
          intro v hv
          simp only [List.mem_cons, List.not_mem_nil, or_false] at hv
          rcases hv with rfl | rfl | rfl | rfl | rfl
          · exact ⟨p2, xs, rfl, up e1, x12, hnm⟩
          · exact ⟨p1, ys, rfl, up e2, y12, hym⟩
          · exact ⟨p3, _, rfl, up e3, by rw [List.length_take]; omega, fun x hx => hnm x (List.mem_of_mem_take hx)⟩
          · exact ⟨p4, _, rfl, up e4, by rw [List.length_reverse]; exact x12, fun x hx => hnm x (List.mem_reverse.mp hx)⟩
          · exact ⟨p5, zs, rfl, g5.old hp5, by omega, hzm⟩
        have hs15 := hs14.same g5.same
        have oG5 : Oth s G G5 := Oth.trans (Oth.of sG3) (Oth.trans o13 (Oth.of g5.same))
        have haG : ∃ ys, G s = some (.lst ys) := let ⟨c, d, e, _⟩ := hsG; ⟨_, e⟩
        obtain ⟨ysG, haG⟩ := haG
        have t15 := tabs_oth tG oG5 haG
        have htp := g5.at_
        refine forK_it (walk_tup (xs := [.ref p2, .ref p1, .ref p3, .ref p4, .ref p5])) (LawPf G5 L (0 + i) s (some (.int (0 + i2))) (some (.ref l)) (some (.ref p1))) ⟨v6, rfl, same_refl⟩ (fun i σ G hi pv => ?_) ?_ ?_
        · obtain ⟨v6, _, oo⟩ := pv
          exact SqT.of (oo _ _ htp)
        · rintro i3 x σ G6 G7 hi3 ⟨v6, rfl, oo⟩ ⟨rfl, hx⟩
          obtain ⟨l', ws, rfl, hl', z12, hz⟩ := all5 _ (List.mem_of_getElem? hx)
          have hG := oo _ _ hl'
          have hG0 := oo _ _ el
          try simp only [cxK, r_lam, r_dnew, r_err, r_base, r_serr, r_var, r_c, r_seq, r_next, r_break, r_cont, r_drop, r_ret, r_retN, r_if, r_ife, r_asg, r_name, r_op, r_un, r_nil, r_cons, r_lst2, r_tup2, r_lc, r_for, r_ilist, r_itup, r_istr, r_irng1, r_irng2, r_ienum, r_ienumS, wipe, r_cb, r_test, r_b, r_not, r_notV, r_andV, r_orV, r_isN, r_notN, r_m1, r_m0, r_fld, sFld, putF, r_par, r_sub, r_gtup, r_gnil, r_gcons, r_sl, r_nopart, r_part, r_bm, r_bm0, r_chain, r_call, r_callK, r_meth, r_prop, r_make, r_and, r_or, andT_t, andT_f, orT_t, orT_f, ifK_t, ifK_f, ifE_t, ifE_f, andK_t, andK_f, orK_t, orK_f, L2.start, List.map_cons, List.map_nil, List.length_cons, List.length_nil, List.replicate_succ, List.replicate_zero, List.cons_append, List.nil_append, List.getElem?_cons_succ, List.getElem?_cons_zero, List.set_cons_succ, List.set_cons_zero, Nat.reduceAdd, Nat.reduceSub, Nat.zero_add, decide_true, decide_false, Bool.not_true, Bool.not_false, if_true, if_false, rEq, rNe, scal_ii, scal_ss, scal_bb, scal_is, scal_si, scal_ns, scal_ni, scal_in, scal_sn, scal_nn, rI, rI0, rU, rIxLH, rIxTH, rLenH, rLenTH, rSetL, rCatN, rTupOfN, rLstOfN, rSlLN, rSlTN, CDiv, CPow, CMul, CDivW, rNeNil, rLenO, rSplitN, rRepN, r_replC, rMulS, r_methK, rRepTN, r_cmK, rCmpO, rInO, r_ixO, r_revL, rInSelf, rCmpA, rBinO, Bool.false_xor, Bool.true_xor, r_starT, r_starL, r_cm, r_cval, selK_t, selK_f, rAppend, rIsK, reduceCtorEq, upd_same, at0, at1, at2, at3, at4, at5, at6, at7, at8, at9, at10, at11, at12, at13, ix3_0, ix3_1, ix3_2, V.int.injEq, V.bl.injEq, V.str.injEq, V.ref.injEq, Option.some.injEq, HO.lst.injEq, HO.tup.injEq, HO.ins.injEq, List.cons.injEq, and_true, true_and, exists_eq_left, exists_eq_left', exists_and_left, exists_eq', exists_eq, and_assoc, N_law]
          refine ⟨l, l', xs, ws, rfl, hG0, hG, x12, hnm, z12, hz, fun G8 s8 => ?_⟩
          try simp only [cxK, r_lam, r_dnew, r_err, r_base, r_serr, r_var, r_c, r_seq, r_next, r_break, r_cont, r_drop, r_ret, r_retN, r_if, r_ife, r_asg, r_name, r_op, r_un, r_nil, r_cons, r_lst2, r_tup2, r_lc, r_for, r_ilist, r_itup, r_istr, r_irng1, r_irng2, r_ienum, r_ienumS, wipe, r_cb, r_test, r_b, r_not, r_notV, r_andV, r_orV, r_isN, r_notN, r_m1, r_m0, r_fld, sFld, putF, r_par, r_sub, r_gtup, r_gnil, r_gcons, r_sl, r_nopart, r_part, r_bm, r_bm0, r_chain, r_call, r_callK, r_meth, r_prop, r_make, r_and, r_or, andT_t, andT_f, orT_t, orT_f, ifK_t, ifK_f, ifE_t, ifE_f, andK_t, andK_f, orK_t, orK_f, L2.start, List.map_cons, List.map_nil, List.length_cons, List.length_nil, List.replicate_succ, List.replicate_zero, List.cons_append, List.nil_append, List.getElem?_cons_succ, List.getElem?_cons_zero, List.set_cons_succ, List.set_cons_zero, Nat.reduceAdd, Nat.reduceSub, Nat.zero_add, decide_true, decide_false, Bool.not_true, Bool.not_false, if_true, if_false, rEq, rNe, scal_ii, scal_ss, scal_bb, scal_is, scal_si, scal_ns, scal_ni, scal_in, scal_sn, scal_nn, rI, rI0, rU, rIxLH, rIxTH, rLenH, rLenTH, rSetL, rCatN, rTupOfN, rLstOfN, rSlLN, rSlTN, CDiv, CPow, CMul, CDivW, rNeNil, rLenO, rSplitN, rRepN, r_replC, rMulS, r_methK, rRepTN, r_cmK, rCmpO, rInO, r_ixO, r_revL, rInSelf, rCmpA, rBinO, Bool.false_xor, Bool.true_xor, r_starT, r_starL, r_cm, r_cval, selK_t, selK_f, rAppend, rIsK, reduceCtorEq, upd_same, at0, at1, at2, at3, at4, at5, at6, at7, at8, at9, at10, at11, at12, at13, ix3_0, ix3_1, ix3_2, V.int.injEq, V.bl.injEq, V.str.injEq, V.ref.injEq, Option.some.injEq, HO.lst.injEq, HO.tup.injEq, HO.ins.injEq, List.cons.injEq, and_true, true_and, exists_eq_left, exists_eq_left', exists_and_left, exists_eq', exists_eq, and_assoc, N_law]
          exact ⟨_, rfl, same_trans oo s8⟩
        · rintro σ G6 ⟨v6, rfl, oo⟩
          refine ⟨_, _, _, _, j12, rfl, ext_oth ns2 s3 (oG.trans (OthN.of (Oth.trans oG5 (Oth.of oo)))), tabs_same t15 oo, hs15.same oo, by omega⟩
    · rintro σ H3 ⟨v3, v4, v5, v6, j, rfl, s3, t3, hs3, hj⟩
      exact ⟨_, _, _, _, _, _, rfl, ext_trans s1 s3, t3⟩
  · rintro σ H1 ⟨v1, v2, v3, v4, v5, v6, rfl, s1, t1⟩
    try simp only [cxK, r_lam, r_dnew, r_err, r_base, r_serr, r_var, r_c, r_seq, r_next, r_break, r_cont, r_drop, r_ret, r_retN, r_if, r_ife, r_asg, r_name, r_op, r_un, r_nil, r_cons, r_lst2, r_tup2, r_lc, r_for, r_ilist, r_itup, r_istr, r_irng1, r_irng2, r_ienum, r_ienumS, wipe, r_cb, r_test, r_b, r_not, r_notV, r_andV, r_orV, r_isN, r_notN, r_m1, r_m0, r_fld, sFld, putF, r_par, r_sub, r_gtup, r_gnil, r_gcons, r_sl, r_nopart, r_part, r_bm, r_bm0, r_chain, r_call, r_callK, r_meth, r_prop, r_make, r_and, r_or, andT_t, andT_f, orT_t, orT_f, ifK_t, ifK_f, ifE_t, ifE_f, andK_t, andK_f, orK_t, orK_f, L2.start, List.map_cons, List.map_nil, List.length_cons, List.length_nil, List.replicate_succ, List.replicate_zero, List.cons_append, List.nil_append, List.getElem?_cons_succ, List.getElem?_cons_zero, List.set_cons_succ, List.set_cons_zero, Nat.reduceAdd, Nat.reduceSub, Nat.zero_add, decide_true, decide_false, Bool.not_true, Bool.not_false, if_true, if_false, rEq, rNe, scal_ii, scal_ss, scal_bb, scal_is, scal_si, scal_ns, scal_ni, scal_in, scal_sn, scal_nn, rI, rI0, rU, rIxLH, rIxTH, rLenH, rLenTH, rSetL, rCatN, rTupOfN, rLstOfN, rSlLN, rSlTN, CDiv, CPow, CMul, CDivW, rNeNil, rLenO, rSplitN, rRepN, r_replC, rMulS, r_methK, rRepTN, r_cmK, rCmpO, rInO, r_ixO, r_revL, rInSelf, rCmpA, rBinO, Bool.false_xor, Bool.true_xor, r_starT, r_starL, r_cm, r_cval, selK_t, selK_f, rAppend, rIsK, reduceCtorEq, upd_same, at0, at1, at2, at3, at4, at5, at6, at7, at8, at9, at10, at11, at12, at13, ix3_0, ix3_1, ix3_2, V.int.injEq, V.bl.injEq, V.str.injEq, V.ref.injEq, Option.some.injEq, HO.lst.injEq, HO.tup.injEq, HO.ins.injEq, List.cons.injEq, and_true, true_and, exists_eq_left, exists_eq_left', exists_and_left, exists_eq', exists_eq, and_assoc, N_law]
    refine path_made2 (ns := [PySem.Str.ofString "a"]) (by decide) (fun x hx => abc_nm x (by simp at hx ⊢; exact .inl hx)) fun p H2 s2 hp => ?_
    obtain ⟨dx, t, hp1, hp2⟩ := hp
    try simp only [cxK, r_lam, r_dnew, r_err, r_base, r_serr, r_var, r_c, r_seq, r_next, r_break, r_cont, r_drop, r_ret, r_retN, r_if, r_ife, r_asg, r_name, r_op, r_un, r_nil, r_cons, r_lst2, r_tup2, r_lc, r_for, r_ilist, r_itup, r_istr, r_irng1, r_irng2, r_ienum, r_ienumS, wipe, r_cb, r_test, r_b, r_not, r_notV, r_andV, r_orV, r_isN, r_notN, r_m1, r_m0, r_fld, sFld, putF, r_par, r_sub, r_gtup, r_gnil, r_gcons, r_sl, r_nopart, r_part, r_bm, r_bm0, r_chain, r_call, r_callK, r_meth, r_prop, r_make, r_and, r_or, andT_t, andT_f, orT_t, orT_f, ifK_t, ifK_f, ifE_t, ifE_f, andK_t, andK_f, orK_t, orK_f, L2.start, List.map_cons, List.map_nil, List.length_cons, List.length_nil, List.replicate_succ, List.replicate_zero, List.cons_append, List.nil_append, List.getElem?_cons_succ, List.getElem?_cons_zero, List.set_cons_succ, List.set_cons_zero, Nat.reduceAdd, Nat.reduceSub, Nat.zero_add, decide_true, decide_false, Bool.not_true, Bool.not_false, if_true, if_false, rEq, rNe, scal_ii, scal_ss, scal_bb, scal_is, scal_si, scal_ns, scal_ni, scal_in, scal_sn, scal_nn, rI, rI0, rU, rIxLH, rIxTH, rLenH, rLenTH, rSetL, rCatN, rTupOfN, rLstOfN, rSlLN, rSlTN, CDiv, CPow, CMul, CDivW, rNeNil, rLenO, rSplitN, rRepN, r_replC, rMulS, r_methK, rRepTN, r_cmK, rCmpO, rInO, r_ixO, r_revL, rInSelf, rCmpA, rBinO, Bool.false_xor, Bool.true_xor, r_starT, r_starL, r_cm, r_cval, selK_t, selK_f, rAppend, rIsK, reduceCtorEq, upd_same, at0, at1, at2, at3, at4, at5, at6, at7, at8, at9, at10, at11, at12, at13, ix3_0, ix3_1, ix3_2, V.int.injEq, V.bl.injEq, V.str.injEq, V.ref.injEq, Option.some.injEq, HO.lst.injEq, HO.tup.injEq, HO.ins.injEq, List.cons.injEq, and_true, true_and, exists_eq_left, exists_eq_left', exists_and_left, exists_eq', exists_eq, and_assoc, N_law, hp1]
    have nm1 : ∀ x ∈ [PySem.Str.ofString "a"], isNm x = true := fun x hx => abc_nm x (by simp at hx ⊢; exact .inl hx)
    have nb : ∀ (H : Hp), NmV H (.str (PySem.Str.ofString "b")) true := fun H => .inl ⟨_, rfl, by decide, (abc_nm _ (by simp)).symm⟩
    have nc : ∀ (H : Hp), NmV H (.str (PySem.Str.ofString "c")) true := fun H => .inl ⟨_, rfl, by decide, (abc_nm _ (by simp)).symm⟩
    obtain ⟨ty, fo, ro, rc, tx, bc⟩ := odd_bin T (nb H2)
    refine ⟨ty, tx, fo, ro, rc, bc, p, _, _, true, rfl, ⟨dx, t, hp1, hp2⟩, by decide, nm1, nb H2, fun z' p' H3 ez _ _ s3 hp' => ?_, fun _ _ _ e => (nomatch e), fun _ _ _ _ e => absurd e (by decide)⟩
    cases ez
    obtain ⟨dx', t', hq1, hq2⟩ := hp'
    try simp only [cxK, r_lam, r_dnew, r_err, r_base, r_serr, r_var, r_c, r_seq, r_next, r_break, r_cont, r_drop, r_ret, r_retN, r_if, r_ife, r_asg, r_name, r_op, r_un, r_nil, r_cons, r_lst2, r_tup2, r_lc, r_for, r_ilist, r_itup, r_istr, r_irng1, r_irng2, r_ienum, r_ienumS, wipe, r_cb, r_test, r_b, r_not, r_notV, r_andV, r_orV, r_isN, r_notN, r_m1, r_m0, r_fld, sFld, putF, r_par, r_sub, r_gtup, r_gnil, r_gcons, r_sl, r_nopart, r_part, r_bm, r_bm0, r_chain, r_call, r_callK, r_meth, r_prop, r_make, r_and, r_or, andT_t, andT_f, orT_t, orT_f, ifK_t, ifK_f, ifE_t, ifE_f, andK_t, andK_f, orK_t, orK_f, L2.start, List.map_cons, List.map_nil, List.length_cons, List.length_nil, List.replicate_succ, List.replicate_zero, List.cons_append, List.nil_append, List.getElem?_cons_succ, List.getElem?_cons_zero, List.set_cons_succ, List.set_cons_zero, Nat.reduceAdd, Nat.reduceSub, Nat.zero_add, decide_true, decide_false, Bool.not_true, Bool.not_false, if_true, if_false, rEq, rNe, scal_ii, scal_ss, scal_bb, scal_is, scal_si, scal_ns, scal_ni, scal_in, scal_sn, scal_nn, rI, rI0, rU, rIxLH, rIxTH, rLenH, rLenTH, rSetL, rCatN, rTupOfN, rLstOfN, rSlLN, rSlTN, CDiv, CPow, CMul, CDivW, rNeNil, rLenO, rSplitN, rRepN, r_replC, rMulS, r_methK, rRepTN, r_cmK, rCmpO, rInO, r_ixO, r_revL, rInSelf, rCmpA, rBinO, Bool.false_xor, Bool.true_xor, r_starT, r_starL, r_cm, r_cval, selK_t, selK_f, rAppend, rIsK, reduceCtorEq, upd_same, at0, at1, at2, at3, at4, at5, at6, at7, at8, at9, at10, at11, at12, at13, ix3_0, ix3_1, ix3_2, V.int.injEq, V.bl.injEq, V.str.injEq, V.ref.injEq, Option.some.injEq, HO.lst.injEq, HO.tup.injEq, HO.ins.injEq, List.cons.injEq, and_true, true_and, exists_eq_left, exists_eq_left', exists_and_left, exists_eq', exists_eq, and_assoc, N_law, hq1]
    obtain ⟨ty, fo, ro, rc, tx, bc⟩ := odd_bin T (nc H3)
    refine ⟨ty, tx, fo, ro, rc, bc, p', _, _, true, rfl, ⟨dx', t', hq1, hq2⟩, by decide, fun x hx => abc_nm x (by simp at hx ⊢; rcases hx with h | h; exact .inl h; exact .inr (.inl h)), nc H3, fun z' p2 H4 ez _ _ s4 hp4 => ?_, fun _ _ _ e => (nomatch e), fun _ _ _ _ e => absurd e (by decide)⟩
    cases ez
    try simp only [cxK, r_lam, r_dnew, r_err, r_base, r_serr, r_var, r_c, r_seq, r_next, r_break, r_cont, r_drop, r_ret, r_retN, r_if, r_ife, r_asg, r_name, r_op, r_un, r_nil, r_cons, r_lst2, r_tup2, r_lc, r_for, r_ilist, r_itup, r_istr, r_irng1, r_irng2, r_ienum, r_ienumS, wipe, r_cb, r_test, r_b, r_not, r_notV, r_andV, r_orV, r_isN, r_notN, r_m1, r_m0, r_fld, sFld, putF, r_par, r_sub, r_gtup, r_gnil, r_gcons, r_sl, r_nopart, r_part, r_bm, r_bm0, r_chain, r_call, r_callK, r_meth, r_prop, r_make, r_and, r_or, andT_t, andT_f, orT_t, orT_f, ifK_t, ifK_f, ifE_t, ifE_f, andK_t, andK_f, orK_t, orK_f, L2.start, List.map_cons, List.map_nil, List.length_cons, List.length_nil, List.replicate_succ, List.replicate_zero, List.cons_append, List.nil_append, List.getElem?_cons_succ, List.getElem?_cons_zero, List.set_cons_succ, List.set_cons_zero, Nat.reduceAdd, Nat.reduceSub, Nat.zero_add, decide_true, decide_false, Bool.not_true, Bool.not_false, if_true, if_false, rEq, rNe, scal_ii, scal_ss, scal_bb, scal_is, scal_si, scal_ns, scal_ni, scal_in, scal_sn, scal_nn, rI, rI0, rU, rIxLH, rIxTH, rLenH, rLenTH, rSetL, rCatN, rTupOfN, rLstOfN, rSlLN, rSlTN, CDiv, CPow, CMul, CDivW, rNeNil, rLenO, rSplitN, rRepN, r_replC, rMulS, r_methK, rRepTN, r_cmK, rCmpO, rInO, r_ixO, r_revL, rInSelf, rCmpA, rBinO, Bool.false_xor, Bool.true_xor, r_starT, r_starL, r_cm, r_cval, selK_t, selK_f, rAppend, rIsK, reduceCtorEq, upd_same, at0, at1, at2, at3, at4, at5, at6, at7, at8, at9, at10, at11, at12, at13, ix3_0, ix3_1, ix3_2, V.int.injEq, V.bl.injEq, V.str.injEq, V.ref.injEq, Option.some.injEq, HO.lst.injEq, HO.tup.injEq, HO.ins.injEq, List.cons.injEq, and_true, true_and, exists_eq_left, exists_eq_left', exists_and_left, exists_eq', exists_eq, and_assoc, N_law]
    refine path_made2 (ns := [PySem.Str.ofString "a", PySem.Str.ofString "b", PySem.Str.ofString "c"]) (by decide) abc_nm fun p3 H5 s5 hp5 => ?_
    have hp45 := hp4.same s5
    obtain ⟨dx4, t4, h41, h42⟩ := hp45
    obtain ⟨dx5, t5, h51, h52⟩ := hp5
    try simp only [cxK, r_lam, r_dnew, r_err, r_base, r_serr, r_var, r_c, r_seq, r_next, r_break, r_cont, r_drop, r_ret, r_retN, r_if, r_ife, r_asg, r_name, r_op, r_un, r_nil, r_cons, r_lst2, r_tup2, r_lc, r_for, r_ilist, r_itup, r_istr, r_irng1, r_irng2, r_ienum, r_ienumS, wipe, r_cb, r_test, r_b, r_not, r_notV, r_andV, r_orV, r_isN, r_notN, r_m1, r_m0, r_fld, sFld, putF, r_par, r_sub, r_gtup, r_gnil, r_gcons, r_sl, r_nopart, r_part, r_bm, r_bm0, r_chain, r_call, r_callK, r_meth, r_prop, r_make, r_and, r_or, andT_t, andT_f, orT_t, orT_f, ifK_t, ifK_f, ifE_t, ifE_f, andK_t, andK_f, orK_t, orK_f, L2.start, List.map_cons, List.map_nil, List.length_cons, List.length_nil, List.replicate_succ, List.replicate_zero, List.cons_append, List.nil_append, List.getElem?_cons_succ, List.getElem?_cons_zero, List.set_cons_succ, List.set_cons_zero, Nat.reduceAdd, Nat.reduceSub, Nat.zero_add, decide_true, decide_false, Bool.not_true, Bool.not_false, if_true, if_false, rEq, rNe, scal_ii, scal_ss, scal_bb, scal_is, scal_si, scal_ns, scal_ni, scal_in, scal_sn, scal_nn, rI, rI0, rU, rIxLH, rIxTH, rLenH, rLenTH, rSetL, rCatN, rTupOfN, rLstOfN, rSlLN, rSlTN, CDiv, CPow, CMul, CDivW, rNeNil, rLenO, rSplitN, rRepN, r_replC, rMulS, r_methK, rRepTN, r_cmK, rCmpO, rInO, r_ixO, r_revL, rInSelf, rCmpA, rBinO, Bool.false_xor, Bool.true_xor, r_starT, r_starL, r_cm, r_cval, selK_t, selK_f, rAppend, rIsK, reduceCtorEq, upd_same, at0, at1, at2, at3, at4, at5, at6, at7, at8, at9, at10, at11, at12, at13, ix3_0, ix3_1, ix3_2, V.int.injEq, V.bl.injEq, V.str.injEq, V.ref.injEq, Option.some.injEq, HO.lst.injEq, HO.tup.injEq, HO.ins.injEq, List.cons.injEq, and_true, true_and, exists_eq_left, exists_eq_left', exists_and_left, exists_eq', exists_eq, and_assoc, N_law, h41, h51]
    refine ⟨p2, p3, _, _, rfl, ⟨dx4, t4, h41, h42⟩, ⟨dx5, t5, h51, h52⟩, abc_nm, abc_nm, ?_⟩
    rw [decide_eq_true (show [PySem.Str.ofString "a"] ++ [PySem.Str.ofString "b"] ++ [PySem.Str.ofString "c"] = [PySem.Str.ofString "a", PySem.Str.ofString "b", PySem.Str.ofString "c"] from rfl)]
    try simp only [cxK, r_lam, r_dnew, r_err, r_base, r_serr, r_var, r_c, r_seq, r_next, r_break, r_cont, r_drop, r_ret, r_retN, r_if, r_ife, r_asg, r_name, r_op, r_un, r_nil, r_cons, r_lst2, r_tup2, r_lc, r_for, r_ilist, r_itup, r_istr, r_irng1, r_irng2, r_ienum, r_ienumS, wipe, r_cb, r_test, r_b, r_not, r_notV, r_andV, r_orV, r_isN, r_notN, r_m1, r_m0, r_fld, sFld, putF, r_par, r_sub, r_gtup, r_gnil, r_gcons, r_sl, r_nopart, r_part, r_bm, r_bm0, r_chain, r_call, r_callK, r_meth, r_prop, r_make, r_and, r_or, andT_t, andT_f, orT_t, orT_f, ifK_t, ifK_f, ifE_t, ifE_f, andK_t, andK_f, orK_t, orK_f, L2.start, List.map_cons, List.map_nil, List.length_cons, List.length_nil, List.replicate_succ, List.replicate_zero, List.cons_append, List.nil_append, List.getElem?_cons_succ, List.getElem?_cons_zero, List.set_cons_succ, List.set_cons_zero, Nat.reduceAdd, Nat.reduceSub, Nat.zero_add, decide_true, decide_false, Bool.not_true, Bool.not_false, if_true, if_false, rEq, rNe, scal_ii, scal_ss, scal_bb, scal_is, scal_si, scal_ns, scal_ni, scal_in, scal_sn, scal_nn, rI, rI0, rU, rIxLH, rIxTH, rLenH, rLenTH, rSetL, rCatN, rTupOfN, rLstOfN, rSlLN, rSlTN, CDiv, CPow, CMul, CDivW, rNeNil, rLenO, rSplitN, rRepN, r_replC, rMulS, r_methK, rRepTN, r_cmK, rCmpO, rInO, r_ixO, r_revL, rInSelf, rCmpA, rBinO, Bool.false_xor, Bool.true_xor, r_starT, r_starL, r_cm, r_cval, selK_t, selK_f, rAppend, rIsK, reduceCtorEq, upd_same, at0, at1, at2, at3, at4, at5, at6, at7, at8, at9, at10, at11, at12, at13, ix3_0, ix3_1, ix3_2, V.int.injEq, V.bl.injEq, V.str.injEq, V.ref.injEq, Option.some.injEq, HO.lst.injEq, HO.tup.injEq, HO.ins.injEq, List.cons.injEq, and_true, true_and, exists_eq_left, exists_eq_left', exists_and_left, exists_eq', exists_eq, and_assoc, N_law]
    refine path_made2 (ns := [PySem.Str.ofString "a"]) (by decide) nm1 fun p4 H6 s6 hp6 => ?_
    try simp only [cxK, r_lam, r_dnew, r_err, r_base, r_serr, r_var, r_c, r_seq, r_next, r_break, r_cont, r_drop, r_ret, r_retN, r_if, r_ife, r_asg, r_name, r_op, r_un, r_nil, r_cons, r_lst2, r_tup2, r_lc, r_for, r_ilist, r_itup, r_istr, r_irng1, r_irng2, r_ienum, r_ienumS, wipe, r_cb, r_test, r_b, r_not, r_notV, r_andV, r_orV, r_isN, r_notN, r_m1, r_m0, r_fld, sFld, putF, r_par, r_sub, r_gtup, r_gnil, r_gcons, r_sl, r_nopart, r_part, r_bm, r_bm0, r_chain, r_call, r_callK, r_meth, r_prop, r_make, r_and, r_or, andT_t, andT_f, orT_t, orT_f, ifK_t, ifK_f, ifE_t, ifE_f, andK_t, andK_f, orK_t, orK_f, L2.start, List.map_cons, List.map_nil, List.length_cons, List.length_nil, List.replicate_succ, List.replicate_zero, List.cons_append, List.nil_append, List.getElem?_cons_succ, List.getElem?_cons_zero, List.set_cons_succ, List.set_cons_zero, Nat.reduceAdd, Nat.reduceSub, Nat.zero_add, decide_true, decide_false, Bool.not_true, Bool.not_false, if_true, if_false, rEq, rNe, scal_ii, scal_ss, scal_bb, scal_is, scal_si, scal_ns, scal_ni, scal_in, scal_sn, scal_nn, rI, rI0, rU, rIxLH, rIxTH, rLenH, rLenTH, rSetL, rCatN, rTupOfN, rLstOfN, rSlLN, rSlTN, CDiv, CPow, CMul, CDivW, rNeNil, rLenO, rSplitN, rRepN, r_replC, rMulS, r_methK, rRepTN, r_cmK, rCmpO, rInO, r_ixO, r_revL, rInSelf, rCmpA, rBinO, Bool.false_xor, Bool.true_xor, r_starT, r_starL, r_cm, r_cval, selK_t, selK_f, rAppend, rIsK, reduceCtorEq, upd_same, at0, at1, at2, at3, at4, at5, at6, at7, at8, at9, at10, at11, at12, at13, ix3_0, ix3_1, ix3_2, V.int.injEq, V.bl.injEq, V.str.injEq, V.ref.injEq, Option.some.injEq, HO.lst.injEq, HO.tup.injEq, HO.ins.injEq, List.cons.injEq, and_true, true_and, exists_eq_left, exists_eq_left', exists_and_left, exists_eq', exists_eq, and_assoc, N_law]
    refine path_made2 (ns := []) (by decide) nofun fun p5 H7 s7 hp7 => ?_
    have hp67 := hp6.same s7
    obtain ⟨dx6, t6, h61, h62⟩ := hp67
    obtain ⟨dx7, t7, h71, h72⟩ := hp7
    try simp only [cxK, r_lam, r_dnew, r_err, r_base, r_serr, r_var, r_c, r_seq, r_next, r_break, r_cont, r_drop, r_ret, r_retN, r_if, r_ife, r_asg, r_name, r_op, r_un, r_nil, r_cons, r_lst2, r_tup2, r_lc, r_for, r_ilist, r_itup, r_istr, r_irng1, r_irng2, r_ienum, r_ienumS, wipe, r_cb, r_test, r_b, r_not, r_notV, r_andV, r_orV, r_isN, r_notN, r_m1, r_m0, r_fld, sFld, putF, r_par, r_sub, r_gtup, r_gnil, r_gcons, r_sl, r_nopart, r_part, r_bm, r_bm0, r_chain, r_call, r_callK, r_meth, r_prop, r_make, r_and, r_or, andT_t, andT_f, orT_t, orT_f, ifK_t, ifK_f, ifE_t, ifE_f, andK_t, andK_f, orK_t, orK_f, L2.start, List.map_cons, List.map_nil, List.length_cons, List.length_nil, List.replicate_succ, List.replicate_zero, List.cons_append, List.nil_append, List.getElem?_cons_succ, List.getElem?_cons_zero, List.set_cons_succ, List.set_cons_zero, Nat.reduceAdd, Nat.reduceSub, Nat.zero_add, decide_true, decide_false, Bool.not_true, Bool.not_false, if_true, if_false, rEq, rNe, scal_ii, scal_ss, scal_bb, scal_is, scal_si, scal_ns, scal_ni, scal_in, scal_sn, scal_nn, rI, rI0, rU, rIxLH, rIxTH, rLenH, rLenTH, rSetL, rCatN, rTupOfN, rLstOfN, rSlLN, rSlTN, CDiv, CPow, CMul, CDivW, rNeNil, rLenO, rSplitN, rRepN, r_replC, rMulS, r_methK, rRepTN, r_cmK, rCmpO, rInO, r_ixO, r_revL, rInSelf, rCmpA, rBinO, Bool.false_xor, Bool.true_xor, r_starT, r_starL, r_cm, r_cval, selK_t, selK_f, rAppend, rIsK, reduceCtorEq, upd_same, at0, at1, at2, at3, at4, at5, at6, at7, at8, at9, at10, at11, at12, at13, ix3_0, ix3_1, ix3_2, V.int.injEq, V.bl.injEq, V.str.injEq, V.ref.injEq, Option.some.injEq, HO.lst.injEq, HO.tup.injEq, HO.ins.injEq, List.cons.injEq, and_true, true_and, exists_eq_left, exists_eq_left', exists_and_left, exists_eq', exists_eq, and_assoc, N_law, h61, h71]
    refine ⟨p4, p5, _, _, rfl, ⟨dx6, t6, h61, h62⟩, ⟨dx7, t7, h71, h72⟩, nm1, nofun, ?_⟩
    rw [decide_eq_false (by simp)]
    try simp only [cxK, r_lam, r_dnew, r_err, r_base, r_serr, r_var, r_c, r_seq, r_next, r_break, r_cont, r_drop, r_ret, r_retN, r_if, r_ife, r_asg, r_name, r_op, r_un, r_nil, r_cons, r_lst2, r_tup2, r_lc, r_for, r_ilist, r_itup, r_istr, r_irng1, r_irng2, r_ienum, r_ienumS, wipe, r_cb, r_test, r_b, r_not, r_notV, r_andV, r_orV, r_isN, r_notN, r_m1, r_m0, r_fld, sFld, putF, r_par, r_sub, r_gtup, r_gnil, r_gcons, r_sl, r_nopart, r_part, r_bm, r_bm0, r_chain, r_call, r_callK, r_meth, r_prop, r_make, r_and, r_or, andT_t, andT_f, orT_t, orT_f, ifK_t, ifK_f, ifE_t, ifE_f, andK_t, andK_f, orK_t, orK_f, L2.start, List.map_cons, List.map_nil, List.length_cons, List.length_nil, List.replicate_succ, List.replicate_zero, List.cons_append, List.nil_append, List.getElem?_cons_succ, List.getElem?_cons_zero, List.set_cons_succ, List.set_cons_zero, Nat.reduceAdd, Nat.reduceSub, Nat.zero_add, decide_true, decide_false, Bool.not_true, Bool.not_false, if_true, if_false, rEq, rNe, scal_ii, scal_ss, scal_bb, scal_is, scal_si, scal_ns, scal_ni, scal_in, scal_sn, scal_nn, rI, rI0, rU, rIxLH, rIxTH, rLenH, rLenTH, rSetL, rCatN, rTupOfN, rLstOfN, rSlLN, rSlTN, CDiv, CPow, CMul, CDivW, rNeNil, rLenO, rSplitN, rRepN, r_replC, rMulS, r_methK, rRepTN, r_cmK, rCmpO, rInO, r_ixO, r_revL, rInSelf, rCmpA, rBinO, Bool.false_xor, Bool.true_xor, r_starT, r_starL, r_cm, r_cval, selK_t, selK_f, rAppend, rIsK, reduceCtorEq, upd_same, at0, at1, at2, at3, at4, at5, at6, at7, at8, at9, at10, at11, at12, at13, ix3_0, ix3_1, ix3_2, V.int.injEq, V.bl.injEq, V.str.injEq, V.ref.injEq, Option.some.injEq, HO.lst.injEq, HO.tup.injEq, HO.ins.injEq, List.cons.injEq, and_true, true_and, exists_eq_left, exists_eq_left', exists_and_left, exists_eq', exists_eq, and_assoc, N_law]
    refine path_made2 (ns := []) (by decide) nofun fun p6 H8 s8 hp8 => ?_
    obtain ⟨dx8, t8, h81, h82⟩ := hp8
    try simp only [cxK, r_lam, r_dnew, r_err, r_base, r_serr, r_var, r_c, r_seq, r_next, r_break, r_cont, r_drop, r_ret, r_retN, r_if, r_ife, r_asg, r_name, r_op, r_un, r_nil, r_cons, r_lst2, r_tup2, r_lc, r_for, r_ilist, r_itup, r_istr, r_irng1, r_irng2, r_ienum, r_ienumS, wipe, r_cb, r_test, r_b, r_not, r_notV, r_andV, r_orV, r_isN, r_notN, r_m1, r_m0, r_fld, sFld, putF, r_par, r_sub, r_gtup, r_gnil, r_gcons, r_sl, r_nopart, r_part, r_bm, r_bm0, r_chain, r_call, r_callK, r_meth, r_prop, r_make, r_and, r_or, andT_t, andT_f, orT_t, orT_f, ifK_t, ifK_f, ifE_t, ifE_f, andK_t, andK_f, orK_t, orK_f, L2.start, List.map_cons, List.map_nil, List.length_cons, List.length_nil, List.replicate_succ, List.replicate_zero, List.cons_append, List.nil_append, List.getElem?_cons_succ, List.getElem?_cons_zero, List.set_cons_succ, List.set_cons_zero, Nat.reduceAdd, Nat.reduceSub, Nat.zero_add, decide_true, decide_false, Bool.not_true, Bool.not_false, if_true, if_false, rEq, rNe, scal_ii, scal_ss, scal_bb, scal_is, scal_si, scal_ns, scal_ni, scal_in, scal_sn, scal_nn, rI, rI0, rU, rIxLH, rIxTH, rLenH, rLenTH, rSetL, rCatN, rTupOfN, rLstOfN, rSlLN, rSlTN, CDiv, CPow, CMul, CDivW, rNeNil, rLenO, rSplitN, rRepN, r_replC, rMulS, r_methK, rRepTN, r_cmK, rCmpO, rInO, r_ixO, r_revL, rInSelf, rCmpA, rBinO, Bool.false_xor, Bool.true_xor, r_starT, r_starL, r_cm, r_cval, selK_t, selK_f, rAppend, rIsK, reduceCtorEq, upd_same, at0, at1, at2, at3, at4, at5, at6, at7, at8, at9, at10, at11, at12, at13, ix3_0, ix3_1, ix3_2, V.int.injEq, V.bl.injEq, V.str.injEq, V.ref.injEq, Option.some.injEq, HO.lst.injEq, HO.tup.injEq, HO.ins.injEq, List.cons.injEq, and_true, true_and, exists_eq_left, exists_eq_left', exists_and_left, exists_eq', exists_eq, and_assoc, N_law, h81]
    refine ⟨p6, _, rfl, ⟨dx8, t8, h81, h82⟩, ?_⟩
    try simp only [cxK, r_lam, r_dnew, r_err, r_base, r_serr, r_var, r_c, r_seq, r_next, r_break, r_cont, r_drop, r_ret, r_retN, r_if, r_ife, r_asg, r_name, r_op, r_un, r_nil, r_cons, r_lst2, r_tup2, r_lc, r_for, r_ilist, r_itup, r_istr, r_irng1, r_irng2, r_ienum, r_ienumS, wipe, r_cb, r_test, r_b, r_not, r_notV, r_andV, r_orV, r_isN, r_notN, r_m1, r_m0, r_fld, sFld, putF, r_par, r_sub, r_gtup, r_gnil, r_gcons, r_sl, r_nopart, r_part, r_bm, r_bm0, r_chain, r_call, r_callK, r_meth, r_prop, r_make, r_and, r_or, andT_t, andT_f, orT_t, orT_f, ifK_t, ifK_f, ifE_t, ifE_f, andK_t, andK_f, orK_t, orK_f, L2.start, List.map_cons, List.map_nil, List.length_cons, List.length_nil, List.replicate_succ, List.replicate_zero, List.cons_append, List.nil_append, List.getElem?_cons_succ, List.getElem?_cons_zero, List.set_cons_succ, List.set_cons_zero, Nat.reduceAdd, Nat.reduceSub, Nat.zero_add, decide_true, decide_false, Bool.not_true, Bool.not_false, if_true, if_false, rEq, rNe, scal_ii, scal_ss, scal_bb, scal_is, scal_si, scal_ns, scal_ni, scal_in, scal_sn, scal_nn, rI, rI0, rU, rIxLH, rIxTH, rLenH, rLenTH, rSetL, rCatN, rTupOfN, rLstOfN, rSlLN, rSlTN, CDiv, CPow, CMul, CDivW, rNeNil, rLenO, rSplitN, rRepN, r_replC, rMulS, r_methK, rRepTN, r_cmK, rCmpO, rInO, r_ixO, r_revL, rInSelf, rCmpA, rBinO, Bool.false_xor, Bool.true_xor, r_starT, r_starL, r_cm, r_cval, selK_t, selK_f, rAppend, rIsK, reduceCtorEq, upd_same, at0, at1, at2, at3, at4, at5, at6, at7, at8, at9, at10, at11, at12, at13, ix3_0, ix3_1, ix3_2, V.int.injEq, V.bl.injEq, V.str.injEq, V.ref.injEq, Option.some.injEq, HO.lst.injEq, HO.tup.injEq, HO.ins.injEq, List.cons.injEq, and_true, true_and, exists_eq_left, exists_eq_left', exists_and_left, exists_eq', exists_eq, and_assoc, N_law]
    refine ⟨by decide, by decide, ?_⟩
    rw [decide_eq_true (by decide)]
    exact q _

end
end FLG

namespace FLG
abbrev R : PySem.W.OpenRow := PySem.W.OpenLaw.row PySem.Challenge.rw_filelayer_k05_paths_as_rows
abbrev hk : PySem.W.Hook := FLm.hookL 600 fa fn lm
def ob (s : PySem.W.SharedT) : FLm.AlL := FLm.obsL 600 fa fn lm (HandSHeadRun.getT s)
theorem ob_eq (s : PySem.W.SharedT) : ob s = hk.obs s.abs := FLm.obsL_eq (HandSHeadRun.getT_eq s)
def loose : List PySem.Str := (["_wall", "__name__", "Invalid", "BadPath", "BadName", "BadNumber", "MAX_NAMES", "NAME_SIGNS", "MAX_NAME", "is_integer", "is_name", "Path", "_law_source", "_law_next", "_law_pick", "_law_good_name", "_law_bad_name", "_law_path_of_row", "_law_row", "_law_invalid", "_law_spelled", "_law_read_right", "_law_longer_right", "_law_compared_right"] : List PySem.Str)
theorem run (w : PySem.World) : HandSHeadRun.RunEq R (PySem.W.view R.prog [27]) hk ob 6000 loose w := by
  intro os
  kernel_rfl
end FLG
open PySem PySem.W PySem.Calls PyProof.Rows
theorem PySem.Challenge.cw_filelayer_k05_paths_as_rows_holds : PySem.Challenge.rw_filelayer_k05_paths_as_rows.Holds := by
  w_on; o_law
  refine HandSHeadRun.head_any (r := OpenLaw.row PySem.Challenge.rw_filelayer_k05_paths_as_rows) (q := view (OpenLaw.row PySem.Challenge.rw_filelayer_k05_paths_as_rows).prog [27]) (H := FLG.hk) (ob := FLG.ob) (M := 6000) (loose := FLG.loose) (d := HandSHeadRun.topDef (OpenLaw.row PySem.Challenge.rw_filelayer_k05_paths_as_rows).prog 27) (kwd := []) FLG.ob_eq
    (by kernel_rfl) (fun s => by kernel_rfl) FLG.run (by kernel_rfl) (by kernel_rfl) (by kernel_rfl) (by rfl) (by first | assumption | decide +kernel) (by decide +kernel) ⟨rfl, rfl, rfl, rfl, rfl, by decide +kernel⟩ ?hw ?hc
  case hw => w_witness2
  case hc =>
    refine FLm.walk_tab (lm := FLG.lm) (l := PySem.Challenge.rw_filelayer_k05_paths_as_rows) (n := 63) (k := 11) rfl (by decide) (by kernel_rfl) (by decide) ?F
    intro w mg f h Y G hmg0
    obtain ⟨K, KX, c, dn, tb⟩ := Y
    have hmg : mg ("law" : PySem.Str) = some (.ref f) := by
      have e : (HandSHeadRun.topDef (OpenLaw.row PySem.Challenge.rw_filelayer_k05_paths_as_rows).prog 27).name = ("law" : PySem.Str) := by kernel_rfl
      rw [← e]
      exact hmg0
    have T : FH.Tx FLG.fa FLG.fn K mg := ⟨c, h, KX, G⟩
    have e := hmg.symm.trans (FLG.g_law T)
    cases e
    exact ⟨K, FLG.spLaw K, KX, tb, fun H a ns hl hT hS => ⟨a, ns, rfl, hl, hS, FLm.TL_nil hT, fun _ => rfl⟩, fun base _ _ B => FLG.ok_law T B dn⟩
