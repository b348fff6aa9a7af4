import PyProof.Rows.All
import Wide.All
import OpenK.AllK
import Wide.FinOn
import KE.KStateDown
import HandS.ForMost
import HandS.ForExc
import HandS.Defaults
import HandS.Star
import HandS.Property
import HandS.StrMore
import HandS.TupAny
import HandS.IsInst
import HandS.EndBits
import HandS.Wide
import HandS.Evl
import HandS.HeadEnd
import HandS.Head2
import HandS.HeadHook2
import PyProof.Draws
import PyProof.ReprLen
import PyProof.ReprRoads
import HandS.Walk
import HandS.ExcInit
import HandS.ExcIs
import KE.KExcInit
import HandS.TryOnly
import HandS.TryMany
import HandS.Lambda
import HandS.EndTab
import HandS.HeadHook4
import PyProof.InstSpecial
import HandS.ClsMeth
import HandS.Codes
import HandS.Text
import HandS.ReplaceLit
import HandS.TupMul
import PyProof.InstNe
import PySem.Challenge.RW_filelayer_k03_path_strings_read
set_option Elab.async false
set_option linter.all false
set_option maxRecDepth 100000
set_option maxHeartbeats 8000000
namespace FL
open PySem PySem.Spec PyProof.Rows L2

/-! ### room, with the guards told -/
structure Rm (gd : Bool) (k : Nat) (A : Around) : Prop where
  r : Room k A
  g : gd = true → A.guards = some []
theorem Rm.mono {gd : Bool} {j k : Nat} {A : Around} (r : Rm gd k A) (h : j ≤ k) : Rm gd j A := ⟨r.r.mono h, r.g⟩
theorem guards_deeper {A : Around} {env : Env} (h : A.guards = some []) : (A.deeper env).guards = some [] := by
  first | exact h | (simp [Around.deeper, h])
theorem Rm.deeper {gd : Bool} {k : Nat} {A : Around} (r : Rm gd (k + 1) A) (env : Env) : Rm gd k (A.deeper env) := ⟨r.r.deeper env, fun e => guards_deeper (r.g e)⟩
theorem Rm.in1 {gd : Bool} {k : Nat} {A : Around} (r : Rm gd (k + 1) A) : Rm gd k A.in1 := ⟨r.r.in1, r.g⟩
theorem guards_make {A : Around} {C : Addr} {us : List Value} {kw : List (Str × Value)} (h : A.guards = some []) : (A.under (.builtin "type.__call__" ⟨.ref C :: us, kw⟩)).guards = some [] := by
  first | exact h | (simp [Around.under, Code.weight, Code.isCreation, Code.isGuard, Code.isCaller, Code.frames, Code.isFrame, guardIds, Code.guards, pushGuards, h])
theorem Rm.make {gd : Bool} {k : Nat} {A : Around} (r : Rm gd (k + 1) A) (C : Addr) (us : List Value) (kw : List (Str × Value)) : Rm gd k (A.under (.builtin "type.__call__" ⟨.ref C :: us, kw⟩)) := ⟨r.r.make C us kw, fun e => guards_make (r.g e)⟩

/-! ### the promise of a def: positional values vs, then the values zs of the keywords ks -/
def Fn (gd : Bool) (P : Program) (w : World) (K : PySem.W.Frag) (mg : Str → Option Value) (base : Heap) (k : Nat) (f : Addr) (ks : List Str) (sp : Sp) : Prop :=
  ∀ (A : Around) (outer : List Env) (s : Shared) (H : Hp) (us ws : List Value) (vs zs : List V) (Q : VK) (E : XK), Rm gd k A → Env0 P w K mg base A outer s H → Vals vs us → Vals zs ws → zs.length = ks.length → sp (vs ++ zs) H Q E →
    codeAny (model P w) A (.call (.ref f) ⟨us, ks.zip ws⟩) (CR (L2.CX P w) outer P w H s Q E) s
section
variable {gd : Bool} {P : Program} {w : World} {K : PySem.W.Frag} {mg : Str → Option Value} {base : Heap} {j k : Nat} {f : Addr} {ks : List Str} {sp sp' : Sp}
theorem Fn.mono (F : Fn gd P w K mg base j f ks sp) (h : j ≤ k) : Fn gd P w K mg base k f ks sp := fun A outer s H us ws vs zs Q E hr => F A outer s H us ws vs zs Q E (hr.mono h)
theorem Fn.imp (F : Fn gd P w K mg base k f ks sp) (h : ∀ vs H Q E, sp' vs H Q E → sp vs H Q E) : Fn gd P w K mg base k f ks sp' := fun A outer s H us ws vs zs Q E hr e0 r rz l hs => F A outer s H us ws vs zs Q E hr e0 r rz l (h _ _ _ _ hs)
end

section
variable {gd : Bool} {P : Program} {w : World} {K : PySem.W.Frag} {mg : Str → Option Value} {base : Heap} {k : Nat} {f : Addr} {x qual : Str} {params : Arguments} {body : List Stmt} {scope : Scope} {dvs : List V} {kws : List (Str × V)} {fd : FuncData} {N ps ks : List Str} {sp sp2 : Sp}
/-- THE RULE for a def: how it binds, then its body -/
theorem fn_bnd (F : FunD K x qual params body scope dvs kws f fd) (S : FnScope N ps scope)
    (hb : ∀ (A : Around) (outer : List Env) (s : Shared) (H : Hp) (us ws : List Value) (vs zs : List V) (Q : VK) (E : XK), Env0 P w K mg base A outer s H → Vals vs us → Vals zs ws → zs.length = ks.length → sp (vs ++ zs) H Q E →
      StX.Bnd (L2.CX P w) P w K mg base fd ⟨us, ks.zip ws⟩ ps A outer s H E (fun xs H2 => sp2 xs H2 Q E))
    (hbody : ∀ (cdv : Value) (A : Around) (outer : List Env) (s : Shared) (H : Hp) (vs : List V) (Q : VK) (E : XK), Rm gd k (A.deeper (envOfC qual scope s.heap.objs.size f cdv)) → sp2 vs H Q E →
      ∃ t, PSs (cxOf (L2.CX P w) P w K mg base N qual scope f cdv A outer s H E) body t ∧ t { nx := fun _ H' => Q .non H', rt := Q } (start N vs) H) : Fn gd P w K mg base (k + 1) f ks sp := by
  intro A outer s H us ws vs zs Q E hr e0 r rz l hs
  obtain ⟨oc, od, dV, kV, doc, pm, an, cdv, ct, osl, e, lk, hcd, _, _⟩ := F.ex
  have B := hb A outer s H us ws vs zs Q E e0 r rz l hs
  subst e
  exact StX.run_bnd lk hcd S hr.r e0 B fun s2 H2 xs g hr2 => hbody cdv A outer s2 H2 xs Q E ⟨hr2, fun e => guards_deeper (hr.g e)⟩ g
/-- plain positional parameters; the defaults ds fill up -/
theorem fn_pos {ds : List Value} {dv : List V} (F : FunD K x qual params body scope dvs kws f fd) (S : FnScope N ps scope) (len : ∀ vs H Q E, sp2 vs H Q E → vs.length = ps.length) (hb : Binds K fd ps ds) (hd : Vals dv ds)
    (hbody : ∀ (cdv : Value) (A : Around) (outer : List Env) (s : Shared) (H : Hp) (vs : List V) (Q : VK) (E : XK), Rm gd k (A.deeper (envOfC qual scope s.heap.objs.size f cdv)) → sp2 vs H Q E →
      ∃ t, PSs (cxOf (L2.CX P w) P w K mg base N qual scope f cdv A outer s H E) body t ∧ t { nx := fun _ H' => Q .non H', rt := Q } (start N vs) H) : Fn gd P w K mg base (k + 1) f [] (fun vs H Q E => sp2 (vs ++ dv) H Q E) := by
  refine fn_bnd (ks := []) F S (fun A outer s H us ws vs zs Q E e0 r rz l hs A' Ex Q' h => ?_) hbody
  have ez : zs = [] := List.length_eq_zero_iff.mp l
  subst ez
  cases rz
  rw [List.append_nil] at hs
  have r2 : Vals (vs ++ dv) (us ++ ds) := r.append hd
  have hl := len _ _ _ _ hs
  have hu : (us ++ ds).length = ps.length := by rw [← r2.length]; exact hl
  exact hb s us (e0.mod.kin.keeps fun b o e => (e0.bs b o e).1) hu _ _ _ _ (h s H (vs ++ dv) (us ++ ds) e0 Un.refl rfl (fun _ _ z => z) r2 hl hs)
theorem fn_all (F : FunD K x qual params body scope dvs kws f fd) (S : FnScope N ps scope) (len : ∀ vs H Q E, sp vs H Q E → vs.length = ps.length) (hb : Binds K fd ps [])
    (hbody : ∀ (cdv : Value) (A : Around) (outer : List Env) (s : Shared) (H : Hp) (vs : List V) (Q : VK) (E : XK), Rm gd k (A.deeper (envOfC qual scope s.heap.objs.size f cdv)) → sp vs H Q E →
      ∃ t, PSs (cxOf (L2.CX P w) P w K mg base N qual scope f cdv A outer s H E) body t ∧ t { nx := fun _ H' => Q .non H', rt := Q } (start N vs) H) : Fn gd P w K mg base (k + 1) f [] sp := by
  have z := fn_pos (dv := []) F S len hb .nil hbody
  simp only [List.append_nil] at z
  exact z
/-- keywords -/
theorem fn_key {n : Nat} {g : List Value → List Value → List Value} {gV : List V → List V → List V} (F : FunD K x qual params body scope dvs kws f fd) (S : FnScope N ps scope) (len : ∀ vs H Q E, sp2 vs H Q E → vs.length = ps.length) (hb : KBn K fd ps n ks g gV)
    (hbody : ∀ (cdv : Value) (A : Around) (outer : List Env) (s : Shared) (H : Hp) (vs : List V) (Q : VK) (E : XK), Rm gd k (A.deeper (envOfC qual scope s.heap.objs.size f cdv)) → sp2 vs H Q E →
      ∃ t, PSs (cxOf (L2.CX P w) P w K mg base N qual scope f cdv A outer s H E) body t ∧ t { nx := fun _ H' => Q .non H', rt := Q } (start N vs) H) :
    Fn gd P w K mg base (k + 1) f ks (fun xs H Q E => ∃ vs zs, xs = vs ++ zs ∧ vs.length = n ∧ zs.length = ks.length ∧ sp2 (gV vs zs) H Q E) := by
  refine fn_bnd F S (fun A outer s H us ws vs zs Q E e0 r rz l hs A' Ex Q' h => ?_) hbody
  obtain ⟨vs', zs', e, l1, l2, hs⟩ := hs
  obtain ⟨e1, e2⟩ := List.append_inj' e (l.trans l2.symm)
  subst e1 e2
  have r2 := hb.rel r rz
  have hl := len _ _ _ _ hs
  exact hb.to s us ws (e0.mod.kin.keeps fun b o e => (e0.bs b o e).1) (r.length.symm.trans l1) (rz.length.symm.trans l2) _ _ _ _ (h s H _ _ e0 Un.refl rfl (fun _ _ z => z) r2 hl hs)
/-- def f(a, .., *v) -/
theorem fn_var {pv : Str} (F : FunD K x qual params body scope dvs kws f fd) (S : FnScope N (ps ++ [pv]) scope)
    (hb : ∀ us rest : List Value, us.length = ps.length → bindArgs fd ⟨us ++ rest, []⟩ = (newTuple rest >>= fun t => pure (ps.zip us ++ [(pv, t)])))
    (hbody : ∀ (cdv : Value) (A : Around) (outer : List Env) (s : Shared) (H : Hp) (vs : List V) (Q : VK) (E : XK), Rm gd k (A.deeper (envOfC qual scope s.heap.objs.size f cdv)) → sp vs H Q E →
      ∃ t, PSs (cxOf (L2.CX P w) P w K mg base N qual scope f cdv A outer s H E) body t ∧ t { nx := fun _ H' => Q .non H', rt := Q } (start N vs) H) :
    Fn gd P w K mg base (k + 1) f [] (fun vs H Q E => ∃ ws rest, vs = ws ++ rest ∧ ws.length = ps.length ∧ rest.length ≤ sizeLine ∧ ∀ p, H p = Option.none → sp (ws ++ [V.ref p]) (upd H p (.tup rest)) Q E) := by
  intro A outer s H us ws0 vs zs Q E hr e0 r rz l hs
  have ez : zs = [] := List.length_eq_zero_iff.mp l
  subst ez
  cases rz
  rw [List.append_nil] at hs
  obtain ⟨oc, od, dV, kV, doc, pm, an, cdv, ct, osl, e, lk, hcd, _, _⟩ := F.ex
  subst e
  have hg := hr.g
  have Z : L2.FnR P w K mg base (L2.CX P w) (k + 1) f (fun vs H Q E => (∃ ws rest, vs = ws ++ rest ∧ ws.length = ps.length ∧ rest.length ≤ sizeLine ∧ ∀ p, H p = Option.none → sp (ws ++ [V.ref p]) (upd H p (.tup rest)) Q E)) → True := fun _ => trivial
  obtain ⟨ws, rest, ev, hl, hz, hq⟩ := hs
  subst ev
  obtain ⟨u1, u2, eu, r1, r2⟩ := StX.vals_split r
  subst eu
  have hn : H s.heap.objs.size = Option.none := e0.hok.fresh (Nat.le_refl _)
  have hl1 : u1.length = ps.length := by rw [← r1.length]; exact hl
  have hl2 : u2.length ≤ sizeLine := by rw [← r2.length]; exact hz
  show codeAny _ _ (.call (.ref f) ⟨u1 ++ u2, []⟩) _ _
  refine StX.run_bnd lk hcd S hr.r e0 (G := fun xs H2 => ∃ p, H p = Option.none ∧ xs = ws ++ [V.ref p] ∧ H2 = upd H p (.tup rest)) (fun A' Ex Q' h => ?_) fun s2 H2 xs ⟨p, hp, ex, eH⟩ hr' => ?_
  · rw [hb u1 u2 hl1]
    refine wpAny_bind (wpAny_newTuple (wpAny_pure ?_) hl2)
    have new : ObjOk P w (upd H s.heap.objs.size (.tup rest)) (s.heap.push ({ cls := .type "tuple", data := .seq u2.toArray } : Obj)) s.heap.objs.size (.tup rest) := ⟨hz, u2, r2, ⟨_, Heap.get?_push_size _ rfl, rfl, _, rfl⟩⟩
    have un := StX.un_laid (fs := frs outer) (s := s) (o := ({ cls := .type "tuple", data := .seq u2.toArray } : Obj)) (u := .tup rest) hn
    have z := h _ _ (ws ++ [V.ref s.heap.objs.size]) (u1 ++ [Value.ref s.heap.objs.size]) (StX.env0_laid e0 new) un rfl (fun e s' => StX.cxUp outer s H _ _ E e s' un (fun b o q => Heap.get?_push_of_some _ q) rfl) (r1.append (.cons rfl .nil))
      (by rw [List.length_append, List.length_append, hl] <;> rfl) ⟨_, hn, rfl, rfl⟩
    rw [List.zip_append hl1.symm] at z
    exact z
  · subst ex eH
    exact hbody cdv A outer s2 _ _ Q E ⟨hr', fun e => guards_deeper (hg e)⟩ (hq p hp)
end

/-! ### calls -/
/-- f(..) by its promise -/
def cCall (sp : Sp) (E : XK) (t : TA) : TE := fun σ H Q => t σ H fun vs H1 => sp vs H1 Q E
/-- f(.., k = v) -/
def cCallK (m : Nat) (sp : Sp) (E : XK) (t tk : TA) : TE := fun σ H Q => t σ H fun vs H1 => tk σ H1 fun zs H2 => zs.length = m ∧ sp (vs ++ zs) H2 Q E
/-- o.m(..) -/
def cMeth (C : Addr) (m : Str) (sp : Sp) (E : XK) (ta : TE) (t : TA) : TE := fun σ H Q => ta σ H fun x H1 => ∃ a dx fs, x = .ref a ∧ H1 a = some (.ins C dx fs) ∧ fs.lookup m = none ∧ t σ H1 fun vs H2 => sp (x :: vs) H2 Q E
def cMethK (C : Addr) (m : Str) (n : Nat) (sp : Sp) (E : XK) (ta : TE) (t tk : TA) : TE := fun σ H Q => ta σ H fun x H1 => ∃ a dx fs, x = .ref a ∧ H1 a = some (.ins C dx fs) ∧ fs.lookup m = none ∧ t σ H1 fun vs H2 => tk σ H2 fun zs H3 => zs.length = n ∧ sp (x :: (vs ++ zs)) H3 Q E
/-- C(..) -/
def cMake (C : Addr) (sp : Sp) (E : XK) (t : TA) : TE := fun σ H Q => t σ H fun vs H1 => ∀ x dx, H1 x = none → H1 dx = none → dx ≠ x →
  sp (.ref x :: vs) (upd (upd H1 dx (.own x)) x (.ins C dx [])) (fun v H2 => v = .non ∧ Q (.ref x) H2) E
def cMakeK (C : Addr) (m : Nat) (sp : Sp) (E : XK) (t tk : TA) : TE := fun σ H Q => t σ H fun vs H1 => tk σ H1 fun zs H2 => zs.length = m ∧ ∀ x dx, H2 x = none → H2 dx = none → dx ≠ x →
  sp (.ref x :: (vs ++ zs)) (upd (upd H2 dx (.own x)) x (.ins C dx [])) (fun v H3 => v = .non ∧ Q (.ref x) H3) E
section
variable {gd : Bool} {X : Cx} {k : Nat} {f C : Addr} {sp : Sp} {E : XK} {x m : Str} {p sp_ pos apos : Pos} {e o : Expr} {es : List Expr} {kws : List Keyword} {ta te : TE} {t tk : TA} {ks : List Str}
theorem run_f {pins : List (Addr × Obj)} {σ : L2.St} {H : Hp} {s : Shared} {Q : VK} {us ws : List Value} {vs zs : List V} (F : Fn gd X.prog X.w X.K X.mg X.base k f ks sp) (hr : Rm gd k X.A) (hx : Passes (L2.CX X.prog X.w) X E)
    (I : Inv X pins σ H s) (r : Vals vs us) (rz : Vals zs ws) (l : zs.length = ks.length) (h : sp (vs ++ zs) H Q E) : wpAny (model X.prog X.w) X.A (call (.ref f) us (ks.zip ws)) (EP X pins σ Q) X.xe s := by
  refine wpAny_call (codeAny_mono (F X.A X.stack s H us ws vs zs Q E hr I.env0 r rz l h) fun r s' hq => ?_)
  cases r with
  | error e => exact hx pins σ H s e s' I hq
  | ok fl =>
    cases fl with
    | ret u => exact I.after hq
    | next => exact False.elim hq
    | brk => exact False.elim hq
    | cont => exact False.elim hq
theorem run_f0 {pins : List (Addr × Obj)} {σ : L2.St} {H : Hp} {s : Shared} {Q : VK} {us : List Value} {vs : List V} (F : Fn gd X.prog X.w X.K X.mg X.base k f [] sp) (hr : Rm gd k X.A) (hx : Passes (L2.CX X.prog X.w) X E)
    (I : Inv X pins σ H s) (r : Vals vs us) (h : sp vs H Q E) : wpAny (model X.prog X.w) X.A (call (.ref f) us) (EP X pins σ Q) X.xe s :=
  run_f (ws := []) (zs := []) F hr hx I r .nil rfl (by rw [List.append_nil]; exact h)
theorem pe_fn (F : Fn gd X.prog X.w X.K X.mg X.base k f [] sp) (hr : Rm gd k X.A) (hg : Gl X x) (hm : X.mg x = some (.ref f)) (hk : PySem.W.keepIn X.K (.ref f) = true) (hx : Passes (L2.CX X.prog X.w) X E)
    (ha : PA X (e :: es) t) (hdb : (x == ("__debug__" : Str)) = false := by decide) (he : starEach (e :: es) X.env = (false, eval e X.env) :: starEach es X.env := by rfl) (hpl : (backTo pos (starEach es X.env)).any (·.1) = false := by rfl) :
    PE X (.Call (.Name x p) (e :: es) [] pos) (cCall sp E t) := by
  refine ⟨fun pins s σ H Q I h => ?_⟩
  refine wpAny_Call_Name_kw (ld_glob I hg hm ?_ hdb)
  refine PySem.W.callWith_K (h₀ := X.base) I.ok.mod.kin hk (thn (ha.run pos pins s σ H _ I h) fun us s1 ⟨vs, H1, I1, r, q⟩ => ⟨I1.kIn, ?_⟩) he hpl
  exact run_f0 F hr hx I1 r q
theorem pe_fn0 (F : Fn gd X.prog X.w X.K X.mg X.base k f [] sp) (hr : Rm gd k X.A) (hg : Gl X x) (hm : X.mg x = some (.ref f)) (hk : PySem.W.keepIn X.K (.ref f) = true) (hx : Passes (L2.CX X.prog X.w) X E)
    (hdb : (x == ("__debug__" : Str)) = false := by decide) : PE X (.Call (.Name x p) [] [] pos) (cCall sp E tNil) := by
  refine ⟨fun pins s σ H Q I h => ?_⟩
  refine wpAny_Call_Name_kw (ld_glob I hg hm ?_ hdb)
  exact PySem.W.callWith_K0 I.kIn hk (run_f0 (us := []) F hr hx I .nil h)
/-- f( *xs) -/
theorem pe_fnS (F : Fn gd X.prog X.w X.K X.mg X.base k f [] sp) (hr : Rm gd k X.A) (hg : Gl X x) (hm : X.mg x = some (.ref f)) (hk : PySem.W.keepIn X.K (.ref f) = true) (hx : Passes (L2.CX X.prog X.w) X E)
    (he : PE X e te) (hdb : (x == ("__debug__" : Str)) = false := by decide) (hst : starEach [.Starred e sp_] X.env = [(true, eval e X.env)] := by rfl) :
    PE X (.Call (.Name x p) [.Starred e sp_] [] pos) (fun σ H Q => te σ H fun y H1 => ∃ a xs, y = V.ref a ∧ (SqT X.K H1 a xs ∨ SqL X.K H1 a xs) ∧ sp xs H1 Q E) := by
  refine ⟨fun pins s σ H Q I h => ?_⟩
  refine wpAny_Call_Name_kw (ld_glob I hg hm ?_ hdb)
  refine PySem.W.callWith_S (h₀ := X.base) I.ok.mod.kin hk (thn (he.run pins s σ H _ I h) fun v s1 ⟨y, H1, I1, ry, a, xs, ey, hxs, q⟩ => ?_) hst
  subst ey
  obtain rfl : v = Value.ref a := ry
  exact StX.star_any I1 hxs fun us s2 I2 rv => ⟨I2.kIn, run_f0 F hr hx I2 rv q⟩
theorem pe_fnK (F : Fn gd X.prog X.w X.K X.mg X.base k f ks sp) (hr : Rm gd k X.A) (hg : Gl X x) (hm : X.mg x = some (.ref f)) (hk : PySem.W.keepIn X.K (.ref f) = true) (hx : Passes (L2.CX X.prog X.w) X E)
    (ha : PA X (e :: es) t) (hkw : PK X kws tk) (hall : (backToKw pos (keywordEach kws X.env)).all (·.1.isSome) = true := by rfl) (hks : (backToKw pos (keywordEach kws X.env)).filterMap (·.1) = ks := by rfl)
    (hdb : (x == ("__debug__" : Str)) = false := by decide) (he : starEach (e :: es) X.env = (false, eval e X.env) :: starEach es X.env := by rfl)
    (hpl : ((backTo pos (starEach (e :: es) X.env)).any (·.1) || (backToKw pos (keywordEach kws X.env)).any (·.1.isNone)) = false := by rfl) :
    PE X (.Call (.Name x p) (e :: es) kws pos) (cCallK ks.length sp E t tk) := by
  refine ⟨fun pins s σ H Q I h => ?_⟩
  refine wpAny_Call_Name_kw (ld_glob I hg hm ?_ hdb)
  refine PySem.W.callWith_KW (h₀ := X.base) I.ok.mod.kin hk hall (thn (ha.run pos pins s σ H _ I h) fun us s1 ⟨vs, H1, I1, r, q⟩ => ?_) hpl he
  refine thn (hkw.run pos pins s1 σ H1 _ I1 q) fun ws s2 ⟨zs, H2, I2, rz, l, q2⟩ => ⟨I2.kIn, ?_⟩
  rw [hks]
  exact run_f F hr hx I2 r rz l q2
theorem pe_fnK0 (F : Fn gd X.prog X.w X.K X.mg X.base k f ks sp) (hr : Rm gd k X.A) (hg : Gl X x) (hm : X.mg x = some (.ref f)) (hk : PySem.W.keepIn X.K (.ref f) = true) (hx : Passes (L2.CX X.prog X.w) X E)
    (hkw : PK X kws tk) (hall : (backToKw pos (keywordEach kws X.env)).all (·.1.isSome) = true := by rfl) (hks : (backToKw pos (keywordEach kws X.env)).filterMap (·.1) = ks := by rfl)
    (hdb : (x == ("__debug__" : Str)) = false := by decide) (hpl : ((backTo pos (starEach [] X.env)).any (·.1) || (backToKw pos (keywordEach kws X.env)).any (·.1.isNone)) = false := by rfl) :
    PE X (.Call (.Name x p) [] kws pos) (cCallK ks.length sp E tNil tk) := by
  refine ⟨fun pins s σ H Q I h => ?_⟩
  refine wpAny_Call_Name_kw (ld_glob I hg hm ?_ hdb)
  refine PySem.W.callWith_KW0 (h₀ := X.base) I.ok.mod.kin hk hall ?_ hpl
  refine thn (hkw.run pos pins s σ H _ I h) fun ws s2 ⟨zs, H2, I2, rz, l, q2⟩ => ⟨I2.kIn, ?_⟩
  rw [hks]
  exact run_f (us := []) (vs := []) F hr hx I2 .nil rz l q2

theorem pe_mt {pl : Sem Bool} (he : PE X o ta) (c : Cls X.K C) (hm : Meth X.K C m f) (F : Fn gd X.prog X.w X.K X.mg X.base k f [] sp) (hr : Rm gd k X.A) (hx : Passes (L2.CX X.prog X.w) X E) (ha : PA X (e :: es) t)
    (hst : starEach (e :: es) X.env = (false, eval e X.env) :: starEach es X.env := by rfl) (hpl : (backTo pos (starEach es X.env)).any (·.1) = false := by rfl)
    (ht : eval (.Call (.Attribute o m apos) (e :: es) [] pos) X.env = (do
      let ov ← eval o X.env
      standAt apos.atName
      let (f, first) ← holding [ov] (getMethod ov m pl)
      callWith pos f first (backTo pos (starEach (e :: es) X.env)) (backToKw pos (keywordEach [] X.env))) := by rfl) :
    PE X (.Call (.Attribute o m apos) (e :: es) [] pos) (cMeth C m sp E ta t) := by
  refine ⟨fun pins s σ H Q I h => ?_⟩
  refine PySem.W.methodCall_KW (pl := pl) (thn (he.run pins s σ H _ I h) fun u s1 ⟨x, H1, I1, rx, a, dx, fs, ex, ea, l, q⟩ => ?_) ht
  subst ex
  obtain rfl : u = Value.ref a := rx
  refine getmeth_ok I1 ea c hm l ?_
  refine PySem.W.callWith_K (first := [.ref a]) (h₀ := X.base) I.ok.mod.kin hm.kp (thn (ha.run pos pins s1 σ H1 _ I1 q) fun us s2 ⟨vs, H2, I2, r, q2⟩ => ⟨I2.kIn, ?_⟩) hst hpl
  exact run_f0 (us := .ref a :: us) (vs := .ref a :: vs) F hr hx I2 (.cons rfl r) q2
theorem pe_mt0 {pl : Sem Bool} (he : PE X o ta) (c : Cls X.K C) (hm : Meth X.K C m f) (F : Fn gd X.prog X.w X.K X.mg X.base k f [] sp) (hr : Rm gd k X.A) (hx : Passes (L2.CX X.prog X.w) X E)
    (ht : eval (.Call (.Attribute o m apos) [] [] pos) X.env = (do
      let ov ← eval o X.env
      standAt apos.atName
      let (f, first) ← holding [ov] (getMethod ov m pl)
      callWith pos f first (backTo pos (starEach [] X.env)) (backToKw pos (keywordEach [] X.env))) := by rfl) :
    PE X (.Call (.Attribute o m apos) [] [] pos) (cMeth C m sp E ta tNil) := by
  refine ⟨fun pins s σ H Q I h => ?_⟩
  refine PySem.W.methodCall_KW (pl := pl) (thn (he.run pins s σ H _ I h) fun u s1 ⟨x, H1, I1, rx, a, dx, fs, ex, ea, l, q⟩ => ?_) ht
  subst ex
  obtain rfl : u = Value.ref a := rx
  refine getmeth_ok I1 ea c hm l ?_
  exact PySem.W.callWith_K0 (first := [.ref a]) I1.kIn hm.kp (run_f0 (us := [.ref a]) (vs := [.ref a]) F hr hx I1 (.cons rfl .nil) q)
theorem pe_mtK {pl : Sem Bool} (he : PE X o ta) (c : Cls X.K C) (hm : Meth X.K C m f) (F : Fn gd X.prog X.w X.K X.mg X.base k f ks sp) (hr : Rm gd k X.A) (hx : Passes (L2.CX X.prog X.w) X E) (ha : PA X (e :: es) t) (hkw : PK X kws tk)
    (hall : (backToKw pos (keywordEach kws X.env)).all (·.1.isSome) = true := by rfl) (hks : (backToKw pos (keywordEach kws X.env)).filterMap (·.1) = ks := by rfl)
    (hst : starEach (e :: es) X.env = (false, eval e X.env) :: starEach es X.env := by rfl) (hpl : ((backTo pos (starEach (e :: es) X.env)).any (·.1) || (backToKw pos (keywordEach kws X.env)).any (·.1.isNone)) = false := by rfl)
    (ht : eval (.Call (.Attribute o m apos) (e :: es) kws pos) X.env = (do
      let ov ← eval o X.env
      standAt apos.atName
      let (f, first) ← holding [ov] (getMethod ov m pl)
      callWith pos f first (backTo pos (starEach (e :: es) X.env)) (backToKw pos (keywordEach kws X.env))) := by rfl) :
    PE X (.Call (.Attribute o m apos) (e :: es) kws pos) (cMethK C m ks.length sp E ta t tk) := by
  refine ⟨fun pins s σ H Q I h => ?_⟩
  refine PySem.W.methodCall_KW (pl := pl) (thn (he.run pins s σ H _ I h) fun u s1 ⟨x, H1, I1, rx, a, dx, fs, ex, ea, l, q⟩ => ?_) ht
  subst ex
  obtain rfl : u = Value.ref a := rx
  refine getmeth_ok I1 ea c hm l ?_
  refine PySem.W.callWith_KW (first := [.ref a]) (h₀ := X.base) I.ok.mod.kin hm.kp hall (thn (ha.run pos pins s1 σ H1 _ I1 q) fun us s2 ⟨vs, H2, I2, r, q2⟩ => ?_) hpl hst
  refine thn (hkw.run pos pins s2 σ H2 _ I2 q2) fun ws s3 ⟨zs, H3, I3, rz, l3, q3⟩ => ⟨I3.kIn, ?_⟩
  rw [hks]
  exact run_f (us := .ref a :: us) (vs := .ref a :: vs) F hr hx I3 (.cons rfl r) rz l3 q3
theorem pe_mtK0 {pl : Sem Bool} (he : PE X o ta) (c : Cls X.K C) (hm : Meth X.K C m f) (F : Fn gd X.prog X.w X.K X.mg X.base k f ks sp) (hr : Rm gd k X.A) (hx : Passes (L2.CX X.prog X.w) X E) (hkw : PK X kws tk)
    (hall : (backToKw pos (keywordEach kws X.env)).all (·.1.isSome) = true := by rfl) (hks : (backToKw pos (keywordEach kws X.env)).filterMap (·.1) = ks := by rfl)
    (hpl : ((backTo pos (starEach [] X.env)).any (·.1) || (backToKw pos (keywordEach kws X.env)).any (·.1.isNone)) = false := by rfl)
    (ht : eval (.Call (.Attribute o m apos) [] kws pos) X.env = (do
      let ov ← eval o X.env
      standAt apos.atName
      let (f, first) ← holding [ov] (getMethod ov m pl)
      callWith pos f first (backTo pos (starEach [] X.env)) (backToKw pos (keywordEach kws X.env))) := by rfl) :
    PE X (.Call (.Attribute o m apos) [] kws pos) (cMethK C m ks.length sp E ta tNil tk) := by
  refine ⟨fun pins s σ H Q I h => ?_⟩
  refine PySem.W.methodCall_KW (pl := pl) (thn (he.run pins s σ H _ I h) fun u s1 ⟨x, H1, I1, rx, a, dx, fs, ex, ea, l, q⟩ => ?_) ht
  subst ex
  obtain rfl : u = Value.ref a := rx
  refine getmeth_ok I1 ea c hm l ?_
  refine PySem.W.callWith_KW0 (first := [.ref a]) (h₀ := X.base) I.ok.mod.kin hm.kp hall ?_ hpl
  refine thn (hkw.run pos pins s1 σ H1 _ I1 q) fun ws s3 ⟨zs, H3, I3, rz, l3, q3⟩ => ⟨I3.kIn, ?_⟩
  rw [hks]
  exact run_f (us := [.ref a]) (vs := [.ref a]) F hr hx I3 (.cons rfl .nil) rz l3 q3

theorem run_mk {pins : List (Addr × Obj)} {σ : L2.St} {H : Hp} {s : Shared} {Q : VK} {us ws : List Value} {vs zs : List V} (M : Mk X.K C f) (F : Fn gd X.prog X.w X.K X.mg X.base k f ks sp) (hr : Rm gd (k + 1) X.A) (hx : Passes (L2.CX X.prog X.w) X E)
    (I : Inv X pins σ H s) (r : Vals vs us) (rz : Vals zs ws) (lz : zs.length = ks.length)
    (h : ∀ x dx, H x = Option.none → H dx = Option.none → dx ≠ x → sp (V.ref x :: (vs ++ zs)) (upd (upd H dx (.own x)) x (.ins C dx [])) (fun v H2 => v = .non ∧ Q (.ref x) H2) E) :
    wpAny (model X.prog X.w) X.A (call (.ref C) us (ks.zip ws)) (EP X pins σ Q) X.xe s := by
  have hq := h (s.heap.objs.size + 1) s.heap.objs.size (I.hok.fresh (Nat.le_succ _)) (I.hok.fresh (Nat.le_refl _)) (Nat.ne_of_lt (Nat.lt_succ_self _))
  have I2 := Inv.made (C := C) I
  have r2 : Vals (V.ref (s.heap.objs.size + 1) :: vs) (Value.ref (s.heap.objs.size + 1) :: us) := .cons rfl r
  refine wpAny_call (make_map (f := f) I.kIn M.makes M.init (beq_iff_eq.mp M.fn) (codeAny_mono (F _ X.stack _ _ (Value.ref (s.heap.objs.size + 1) :: us) ws _ zs _ E (hr.make C us (ks.zip ws)) (I2.env0.make C us (ks.zip ws)) r2 rz lz hq) fun r s' hq' => ?_))
  cases r with
  | error e => exact hx pins σ _ _ e s' I2 hq'
  | ok fl =>
    cases fl with
    | ret u =>
      obtain ⟨v, H', I3, rv, ev, q3⟩ := I2.after hq'
      subst ev
      exact ⟨rv, ⟨V.ref (s.heap.objs.size + 1), H', I3, rfl, q3⟩⟩
    | next => exact False.elim hq'
    | brk => exact False.elim hq'
    | cont => exact False.elim hq'
theorem run_mk0 {pins : List (Addr × Obj)} {σ : L2.St} {H : Hp} {s : Shared} {Q : VK} {us : List Value} {vs : List V} (M : Mk X.K C f) (F : Fn gd X.prog X.w X.K X.mg X.base k f [] sp) (hr : Rm gd (k + 1) X.A) (hx : Passes (L2.CX X.prog X.w) X E)
    (I : Inv X pins σ H s) (r : Vals vs us)
    (h : ∀ x dx, H x = Option.none → H dx = Option.none → dx ≠ x → sp (V.ref x :: vs) (upd (upd H dx (.own x)) x (.ins C dx [])) (fun v H2 => v = .non ∧ Q (.ref x) H2) E) :
    wpAny (model X.prog X.w) X.A (call (.ref C) us) (EP X pins σ Q) X.xe s :=
  run_mk (ws := []) (zs := []) M F hr hx I r .nil rfl (by rw [List.append_nil]; exact h)
theorem pe_mk (M : Mk X.K C f) (F : Fn gd X.prog X.w X.K X.mg X.base k f [] sp) (hr : Rm gd (k + 1) X.A) (hg : Gl X x) (hm : X.mg x = some (.ref C)) (hx : Passes (L2.CX X.prog X.w) X E) (ha : PA X (e :: es) t) (hdb : (x == ("__debug__" : Str)) = false := by decide)
    (he : starEach (e :: es) X.env = (false, eval e X.env) :: starEach es X.env := by rfl) (hpl : (backTo pos (starEach es X.env)).any (·.1) = false := by rfl) : PE X (.Call (.Name x p) (e :: es) [] pos) (cMake C sp E t) := by
  refine ⟨fun pins s σ H Q I h => ?_⟩
  refine wpAny_Call_Name_kw (ld_glob I hg hm ?_ hdb)
  refine PySem.W.callWith_K (h₀ := X.base) I.ok.mod.kin M.kp (thn (ha.run pos pins s σ H _ I h) fun us s1 ⟨vs, H1, I1, r, q⟩ => ⟨I1.kIn, ?_⟩) he hpl
  exact run_mk0 M F hr hx I1 r q
theorem pe_mk0 (M : Mk X.K C f) (F : Fn gd X.prog X.w X.K X.mg X.base k f [] sp) (hr : Rm gd (k + 1) X.A) (hg : Gl X x) (hm : X.mg x = some (.ref C)) (hx : Passes (L2.CX X.prog X.w) X E) (hdb : (x == ("__debug__" : Str)) = false := by decide) :
    PE X (.Call (.Name x p) [] [] pos) (cMake C sp E tNil) := by
  refine ⟨fun pins s σ H Q I h => ?_⟩
  refine wpAny_Call_Name_kw (ld_glob I hg hm ?_ hdb)
  exact PySem.W.callWith_K0 I.kIn M.kp (run_mk0 (us := []) M F hr hx I .nil h)
/-- C( *xs) -/
theorem pe_mkS (M : Mk X.K C f) (F : Fn gd X.prog X.w X.K X.mg X.base k f [] sp) (hr : Rm gd (k + 1) X.A) (hg : Gl X x) (hm : X.mg x = some (.ref C)) (hx : Passes (L2.CX X.prog X.w) X E) (he : PE X e te) (hdb : (x == ("__debug__" : Str)) = false := by decide)
    (hst : starEach [.Starred e sp_] X.env = [(true, eval e X.env)] := by rfl) :
    PE X (.Call (.Name x p) [.Starred e sp_] [] pos) (fun σ H Q => te σ H fun y H1 => ∃ a xs, y = V.ref a ∧ (SqT X.K H1 a xs ∨ SqL X.K H1 a xs) ∧ ∀ x dx, H1 x = Option.none → H1 dx = Option.none → dx ≠ x →
      sp (V.ref x :: xs) (upd (upd H1 dx (.own x)) x (.ins C dx [])) (fun v H2 => v = .non ∧ Q (.ref x) H2) E) := by
  refine ⟨fun pins s σ H Q I h => ?_⟩
  refine wpAny_Call_Name_kw (ld_glob I hg hm ?_ hdb)
  refine PySem.W.callWith_S (h₀ := X.base) I.ok.mod.kin M.kp (thn (he.run pins s σ H _ I h) fun v s1 ⟨y, H1, I1, ry, a, xs, ey, hxs, q⟩ => ?_) hst
  subst ey
  obtain rfl : v = Value.ref a := ry
  exact StX.star_any I1 hxs fun us s2 I2 rv => ⟨I2.kIn, run_mk0 M F hr hx I2 rv q⟩
theorem pe_mkK (M : Mk X.K C f) (F : Fn gd X.prog X.w X.K X.mg X.base k f ks sp) (hr : Rm gd (k + 1) X.A) (hg : Gl X x) (hm : X.mg x = some (.ref C)) (hx : Passes (L2.CX X.prog X.w) X E) (ha : PA X (e :: es) t) (hkw : PK X kws tk)
    (hall : (backToKw pos (keywordEach kws X.env)).all (·.1.isSome) = true := by rfl) (hks : (backToKw pos (keywordEach kws X.env)).filterMap (·.1) = ks := by rfl) (hdb : (x == ("__debug__" : Str)) = false := by decide)
    (he : starEach (e :: es) X.env = (false, eval e X.env) :: starEach es X.env := by rfl) (hpl : ((backTo pos (starEach (e :: es) X.env)).any (·.1) || (backToKw pos (keywordEach kws X.env)).any (·.1.isNone)) = false := by rfl) :
    PE X (.Call (.Name x p) (e :: es) kws pos) (cMakeK C ks.length sp E t tk) := by
  refine ⟨fun pins s σ H Q I h => ?_⟩
  refine wpAny_Call_Name_kw (ld_glob I hg hm ?_ hdb)
  refine PySem.W.callWith_KW (h₀ := X.base) I.ok.mod.kin M.kp hall (thn (ha.run pos pins s σ H _ I h) fun us s1 ⟨vs, H1, I1, r, q⟩ => ?_) hpl he
  refine thn (hkw.run pos pins s1 σ H1 _ I1 q) fun ws s2 ⟨zs, H2, I2, rz, l, q2⟩ => ⟨I2.kIn, ?_⟩
  rw [hks]
  exact run_mk M F hr hx I2 r rz l q2
theorem pe_mkK0 (M : Mk X.K C f) (F : Fn gd X.prog X.w X.K X.mg X.base k f ks sp) (hr : Rm gd (k + 1) X.A) (hg : Gl X x) (hm : X.mg x = some (.ref C)) (hx : Passes (L2.CX X.prog X.w) X E) (hkw : PK X kws tk)
    (hall : (backToKw pos (keywordEach kws X.env)).all (·.1.isSome) = true := by rfl) (hks : (backToKw pos (keywordEach kws X.env)).filterMap (·.1) = ks := by rfl) (hdb : (x == ("__debug__" : Str)) = false := by decide)
    (hpl : ((backTo pos (starEach [] X.env)).any (·.1) || (backToKw pos (keywordEach kws X.env)).any (·.1.isNone)) = false := by rfl) :
    PE X (.Call (.Name x p) [] kws pos) (cMakeK C ks.length sp E tNil tk) := by
  refine ⟨fun pins s σ H Q I h => ?_⟩
  refine wpAny_Call_Name_kw (ld_glob I hg hm ?_ hdb)
  refine PySem.W.callWith_KW0 (h₀ := X.base) I.ok.mod.kin M.kp hall ?_ hpl
  refine thn (hkw.run pos pins s σ H _ I h) fun ws s2 ⟨zs, H2, I2, rz, l, q2⟩ => ⟨I2.kIn, ?_⟩
  rw [hks]
  exact run_mk (us := []) (vs := []) M F hr hx I2 .nil rz l q2
end

/-! ### a property read (its getter lets nothing out) -/
def cProp (C : Addr) (sp : Sp) (E : XK) (ta : TE) : TE := fun σ H Q => ta σ H fun x H1 => ∃ a dx fs, x = .ref a ∧ H1 a = some (.ins C dx fs) ∧ sp [.ref a] H1 Q E
section
variable {gd : Bool} {X : Cx} {k : Nat} {C p g a dx : Addr} {fs : List (Str × V)} {f : Str} {sp : Sp} {E : XK} {e : Expr} {pos : Pos} {ta : TE}
theorem getprop_f {pins : List (Addr × Obj)} {σ : L2.St} {H : Hp} {s : Shared} {Q : VK} {b : Bool} (I : Inv X pins σ H s) (ea : H a = some (.ins C dx fs)) (c : Cls X.K C) (hp : PropOf X.K C f p g)
    (F : Fn gd X.prog X.w X.K X.mg X.base k g [] sp) (hr : Rm gd (k + 1) X.A) (hx : Passes (L2.CX X.prog X.w) X.nox E) (h : sp [.ref a] H Q E) {E' : Value → Shared → Prop} :
    wpAny (model X.prog X.w) X.A (getAttr (.ref a) f b) (EP X pins σ Q) E' s := by
  obtain ⟨mA, O, _, _, _, _⟩ := ins_get I.hok ea
  obtain ⟨od, J, _⟩ := O.look
  obtain ⟨rest, hrec⟩ := hp.rec_
  have I1 := I.tok (s.toks + 1)
  have hc : (PySem.W.clsIn X.K C).isSome = true := by
    obtain ⟨cd, hc, _⟩ := PySem.W.any_some c.hd
    rw [hc]
    rfl
  refine PySem.W.get_bind I.kIn J (PySem.W.plainGet_of (c.get f)).1 (PySem.W.findObj_data hc hp.at_ hp.get hp.tak) (PySem.W.plainGet_of (c.get f)).2 (wpAny_call (PySem.W.prop_get (s := { s with toks := s.toks + 1 }) I.kIn hrec ?_))
  refine codeAny_mono (F X.A.in1 X.stack { s with toks := s.toks + 1 } H [.ref a] [] [.ref a] [] Q E hr.in1 I1.env0.in1 (.cons rfl .nil) .nil rfl h) fun r s' hq => ?_
  cases r with
  | error er => exact False.elim (hx pins σ H { s with toks := s.toks + 1 } er s' (I1.wish _) hq)
  | ok fl =>
    cases fl with
    | ret u =>
      obtain ⟨v, H', I3, rv, q3⟩ := I1.after hq
      show wpAny _ _ (handedOut u) _ _ _
      rw [PySem.W.handedOut_of (handed_of rv)]
      exact wpAny_pure ⟨v, H', I3, rv, q3⟩
    | next => exact False.elim hq
    | brk => exact False.elim hq
    | cont => exact False.elim hq
theorem pe_pr (he : PE X e ta) (c : Cls X.K C) (hp : PropOf X.K C f p g) (F : Fn gd X.prog X.w X.K X.mg X.base k g [] sp) (hr : Rm gd (k + 1) X.A) (hx : Passes (L2.CX X.prog X.w) X.nox E)
    (hab : attributeBase e f X.env (eval e X.env) = eval e X.env := by rfl) : PE X (.Attribute e f pos) (cProp C sp E ta) := by
  refine ⟨fun pins s σ H Q I h => ?_⟩
  refine attr_of hab (thn (he.run pins s σ H _ I h) fun u s1 ⟨x, H1, I1, rx, a, dx, fs, ex, ea, q⟩ => ?_)
  subst ex
  obtain rfl : u = Value.ref a := rx
  exact getprop_f I1 ea c hp F hr hx q
end
end FL

namespace FL
open PySem PySem.Spec PyProof.Rows L2

/-! ### repr of data -/
def rRepr (K : PySem.W.Frag) : List V → Hp → VK → Prop := fun xs H Q => ∃ x d, xs = [x] ∧ Dp K H x d ∧ d.showable = true ∧ d.hasDict = false ∧ d.leavesShort 13 = true ∧ d.weight ≤ 2 ^ 20 ∧ d.depth ≤ 60 ∧ (∀ i, x ≠ .int i) ∧ Q (.str d.shown) H
theorem call_repr {X : Cx} {k : Nat} (hr : Rm true k X.A) : CallR X (.builtin "repr") (rRepr X.K) := by
  intro pins s σ H xs us Q I r h
  obtain ⟨x, d, rfl, hd, hs, hn, hl, hw, hz, hi, q⟩ := h
  obtain ⟨u, rfl, rx⟩ := vals1 r
  have hu := hr.r.units
  have hf := PyData.shown_fits (B := 13) (by decide) (by decide) hl hw
  obtain ⟨as, rd⟩ := Dp.reads I d x u hd rx
  cases rd with
  | none => exact PySem.P.repr_of_none ⟨.str _, H, I.tok _, ⟨_, by rw [PyData.shown_none]⟩, q⟩
  | bool b => exact PySem.P.repr_of_bool ⟨.str _, H, I.tok _, ⟨_, by rw [PyData.shown_bool]⟩, q⟩
  | int i t =>
    exfalso
    cases x with
    | int j => exact hi j rfl
    | non => cases (show Value.int i t = Value.none from rx)
    | bl j => cases (show Value.int i t = Value.bool j from rx)
    | str j => obtain ⟨t', e⟩ := (show ∃ t', Value.int i t = Value.str j t' from rx); cases e
    | byt j => obtain ⟨t', e⟩ := (show ∃ t', Value.int i t = Value.bytes j t' from rx); cases e
    | flt j => obtain ⟨t', e⟩ := (show ∃ t', Value.int i t = Value.float j t' from rx); cases e
    | ref j => cases (show Value.int i t = Value.ref j from rx)
    | ty j => cases (show Value.int i t = Value.type j from rx)
  | str y t => exact PySem.P.repr_of_str ⟨.str _, H, I.tok _, ⟨_, by rw [PyData.shown_str]⟩, q⟩ (by rw [← PyData.shown_str]; exact hf)
  | list h1 h2 h3 h4 => exact repr_of_reads' (.list h1 h2 h3 h4) hs (PyData.noDict_hsm hn) (hr.g rfl) (by omega) (fun _ _ e => e) (fun h' u tk hk => ⟨.str _, H, I.kept (t' := tk) hk, ⟨_, rfl⟩, q⟩) hf
  | tuple h1 h2 h3 h4 => exact repr_of_reads' (.tuple h1 h2 h3 h4) hs (PyData.noDict_hsm hn) (hr.g rfl) (by omega) (fun _ _ e => e) (fun h' u tk hk => ⟨.str _, H, I.kept (t' := tk) hk, ⟨_, rfl⟩, q⟩) hf
  | dict h1 h2 h3 h4 h5 => cases hn

/-! ### enumerate(text) -/
def Ies (x : Str) : It := ⟨fun i _ => i < x.cps.size, fun i H v H' => ∃ T c, v = .ref T ∧ H T = none ∧ H' = upd H T (.tup [.int (i : Nat), .str ⟨#[c]⟩]) ∧ x.cps[i]? = some c, fun i _ => x.cps.size ≤ i⟩
theorem turn_enumS {P : Program} {w : World} {K : PySem.W.Frag} {elts : List Expr} {kk : Nat} {tpos : Pos} (e it : Addr) (x : Str) (t : Tok) :
    Turn P w K (.Tuple elts kk tpos) (Ies x) [e, it] e (fun i h => (∃ old, IsEnum h e it ((i : Nat) : Int) old) ∧ h.IsStrIter it (strIterType x) x t i ∧ e ≠ it ∧ i ≤ x.cps.size) where
  mem := by simp
  obj := fun i h st b hb => by
    obtain ⟨⟨old, he⟩, ⟨o, ho, hc, hd⟩, _⟩ := st
    have e' : b = e ∨ b = it := by simpa using hb
    rcases e' with z | z
    · rw [z]; exact ⟨_, he, fun v q => nomatch q⟩
    · rw [z]; exact ⟨o, ho, fun v q => by rw [hd] at q; cases q⟩
  keep := fun i h h' st k => let ⟨⟨old, he⟩, ⟨o, ho, r⟩, hne, hi⟩ := st; ⟨⟨old, k e (by simp) _ he⟩, ⟨o, k it (by simp) o ho, r⟩, hne, hi⟩
  item := by
    intro X hP hw hK hc i pins s σ H E I hf st hg
    subst hP hw hK
    obtain ⟨⟨old, he⟩, hit, hne, hi⟩ := st
    have hlt : i < x.cps.size := hg
    have D : Draws X.prog X.w X.A.in1 it [it] x.cps.size (fun i v => ∃ c u, x.cps[i]? = some c ∧ v = .str ⟨#[c]⟩ u) (fun i h => h.IsStrIter it (strIterType x) x t i) := by
      unfold strIterType
      split
      · exact Draws.strAscii (A := X.A.in1) (show X.A.in1.handled = none from I.ok.hd hc) it x t
      · exact Draws.strWide (A := X.A.in1) (show X.A.in1.handled = none from I.ok.hd hc) it x t
    have hel : e < s.heap.objs.size := Heap.lt_size he
    have hil : it < s.heap.objs.size := by obtain ⟨_, q, _⟩ := hit; exact Heap.lt_size q
    refine wpAny_pyNext_enum_itemD D he hit hlt hne (by simpa using hne) fun v h' tk hv ho hit' hT hsz hk => ?_
    obtain ⟨c, u, hcx, rfl⟩ := hv
    refine ⟨_, rfl, wpAny_letOwnedTupleGo_enum (s := { s with heap := h', toks := tk + 1 }) ho fun h'' he' sb => ?_⟩
    have hT2 : h''.get? s.heap.objs.size = some { cls := .type "tuple", data := .seq #[.int i tk, .str ⟨#[c]⟩ u] } := (sb.2 _ (Nat.ne_of_gt hel)).trans hT
    have new : ObjOk X.prog X.w (upd H s.heap.objs.size (.tup [.int (i : Nat), .str ⟨#[c]⟩])) h'' s.heap.objs.size (.tup [.int (i : Nat), .str ⟨#[c]⟩]) :=
      ⟨by show 2 ≤ sizeLine; decide, [.int i tk, .str ⟨#[c]⟩ u], .cons ⟨_, rfl⟩ (.cons ⟨_, rfl⟩ .nil), ⟨_, hT2, rfl, _, rfl⟩⟩
    have I1 : Inv X pins σ (upd H s.heap.objs.size (.tup [.int (i : Nat), .str ⟨#[c]⟩])) { s with heap := h'', toks := tk + 1 } :=
      I.turnedNew (ch := [e, it]) (fun b ob hb q => (sb.2 b (fun z => hb (by simp [z]))).trans (hk b ob (fun z => hb (by simp [z])) (fun z => hb (by simp [z])) q)) hf (Nat.le_refl _) new
    obtain ⟨oi, hoi, ri⟩ := hit'
    refine ⟨.ref s.heap.objs.size, _, I1, rfl, ⟨_, c, rfl, I.hok.fresh (Nat.le_refl _), rfl, hcx⟩, ⟨⟨.str ⟨#[c]⟩ u, ?_⟩, ⟨oi, (sb.2 it (Ne.symm hne)).trans hoi, ri⟩, hne, hlt⟩, fun b hb => ?_⟩
    · have e1 : ((i + 1 : Nat) : Int) = (i : Int) + 1 := by omega
      rw [e1]; exact he'
    · have hb' : b < s.heap.objs.size := by
        have e' : b = e ∨ b = it := by simpa using hb
        rcases e' with z | z
        · rw [z]; exact hel
        · rw [z]; exact hil
      rw [upd_ne (Nat.ne_of_lt hb')]
      exact (hf b hb).1
  done := by
    intro X hP hw hK hc i pins s σ H E I hf st hg
    subst hP hw hK
    obtain ⟨⟨old, he⟩, hit, hne, hi⟩ := st
    have hge : x.cps.size ≤ i := hg
    have ei : i = x.cps.size := by omega
    subst ei
    obtain ⟨f0, f1, f2, f3, f4, f5⟩ := hf it (by simp)
    have D : Draws X.prog X.w X.A.in1 it [it] x.cps.size (fun i v => ∃ c u, x.cps[i]? = some c ∧ v = .str ⟨#[c]⟩ u) (fun i h => h.IsStrIter it (strIterType x) x t i) := by
      unfold strIterType
      split
      · exact Draws.strAscii (A := X.A.in1) (show X.A.in1.handled = none from I.ok.hd hc) it x t
      · exact Draws.strWide (A := X.A.in1) (show X.A.in1.handled = none from I.ok.hd hc) it x t
    exact wpAny_pyNext_enum_endD D he hit fun h' eb => ⟨rfl, I.turned (t' := s.toks) (fun b o hb q => eb b o hb q) f0 f1 f3 f4 f5⟩
  self := fun A i s Q E st h => let ⟨⟨_, he⟩, _⟩ := st; wpAny_pyIter_enum he h
def iEnumS (ta : TA) : TI := fun σ H R => ta σ H fun vs H1 => ∃ x, vs = [.str x] ∧ R (Ies x) H1
theorem pi_enumS {X : Cx} {e : Expr} {ta : TA} {p pos tpos : Pos} {elts : List Expr} {kk : Nat} (hg : Gl X "enumerate") (hm : X.mg "enumerate" = none) (ha : PA X [e] ta) (hs : starEach [e] X.env = [(false, eval e X.env)] := by rfl) :
    PI X (.Tuple elts kk tpos) (.Call (.Name "enumerate" p) [e] [] pos) (iEnumS ta) := by
  refine ⟨fun pins s σ H R I h => ?_⟩
  refine Call_ (ld_blt I hg hm boot_enumerate (PyProof.Rows.callWith_type1 (thn (ha.run pos pins s σ H _ I h) fun us s1 ⟨vs, H1, I1, r1, q1⟩ => ?_) hs rfl))
  obtain ⟨x, ex, q⟩ := q1
  subst ex
  cases r1 with
  | cons r rr =>
    cases rr
    obtain ⟨t, rfl⟩ := r
    refine call_enumerate_str fun h' he hit hsz hk => wpAny_pyIter_enum he ?_
    have I2 : Inv X pins σ H1 { s1 with heap := h' } := I1.kept (t' := s1.toks) hk
    refine ⟨s1.heap.objs.size + 1, [s1.heap.objs.size + 1, s1.heap.objs.size], _, _, H1, rfl, I2, turn_enumS (s1.heap.objs.size + 1) s1.heap.objs.size x t, ⟨⟨.none, he⟩, hit, Nat.succ_ne_self _, Nat.zero_le _⟩, fun b hb => ?_, q⟩
    have e' : b = s1.heap.objs.size + 1 ∨ b = s1.heap.objs.size := by simpa using hb
    have hle : s1.heap.objs.size ≤ b := by
      rcases e' with z | z
      · rw [z]; exact Nat.le_add_right _ _
      · rw [z]; exact Nat.le_refl _
    exact I1.fpOk hle (I1.hok.fresh hle)
end FL

/-! The head: facts of the top, read off one run in the kernel. -/
namespace FH
open PySem PySem.Spec PyProof.Rows L2 He

/-! ### a def: where it stands, its parts -/
structure DX where
  at_ : PySem.W.Frag → Addr
  name : Str
  qual : Str
  st : Stmt
  dfl : List Dv := []
  kwd : List (Str × Dv) := []
abbrev FX : Type := Option (Str × Str × Arguments × FuncBody × Scope × Addr × List (Str × Addr) × Addr)
def fnX (K : PySem.W.Frag) (a : Addr) : FX := match K.lookup a with
  | some ⟨_, _, .func fd, _⟩ => some (fd.name, fd.qualname, fd.params, fd.body, fd.scope, fd.globals, fd.closure, fd.builtins)
  | _ => none
def DX.val (d : DX) : FX := some (d.name, d.qual, defArgs d.st, .stmts (defBody d.st), defScope d.st, mainGlobals, [], builtinsNs)
def DX.dvs (K : PySem.W.Frag) (d : DX) : List V := d.dfl.map (Dv.v K)
def DX.kws (K : PySem.W.Frag) (d : DX) : List (Str × V) := d.kwd.map fun q => (q.1, q.2.v K)
def DX.ok (K : PySem.W.Frag) (d : DX) : Bool := PySem.W.keepIn K (.ref (d.at_ K)) && (match K.lookup (d.at_ K) with
  | some ⟨_, _, .func fd, _⟩ => PySem.W.codeIn K fd.code d.qual && (dflB K fd.defaults (d.dvs K) && kwdB K fd.kwdefaults (d.kws K))
  | _ => false)
abbrev FunX (K : PySem.W.Frag) (d : DX) (fd : FuncData) : Prop := FunD K d.name d.qual (defArgs d.st) (defBody d.st) (defScope d.st) (d.dvs K) (d.kws K) (d.at_ K) fd
theorem DX.funD {K : PySem.W.Frag} {d : DX} (e : fnX K (d.at_ K) = d.val) (c : d.ok K = true) : ∃ fd, FunX K d fd := by
  obtain ⟨kp, c2⟩ := ba c
  unfold fnX at e
  cases q : K.lookup (d.at_ K) with
  | none =>
    rw [q] at c2
    cases c2
  | some o =>
    obtain ⟨oc, od, dt, osl⟩ := o
    rw [q] at c2 e
    cases dt with
    | func fd =>
      obtain ⟨n1, n2, n3, n4, n5, n6, n7, n8, n9, n10, n11, n12, n13, n14, n15⟩ := fd
      have e2 : (some (n1, n2, n3, n4, n5, n6, n7, n15) : FX) = some (d.name, d.qual, defArgs d.st, .stmts (defBody d.st), defScope d.st, mainGlobals, [], builtinsNs) := e
      simp only [Option.some.injEq, Prod.mk.injEq] at e2
      obtain ⟨h1, h2, h3, h4, h5, h6, h7, h8⟩ := e2
      subst h1 h2 h3 h4 h5 h6 h7 h8
      have c3 : (PySem.W.codeIn K n13 d.qual && (dflB K n8 (d.dvs K) && kwdB K n9 (d.kws K))) = true := c2
      obtain ⟨k1, k2⟩ := ba c3
      obtain ⟨k3, k4⟩ := ba k2
      exact ⟨_, ⟨oc, od, n8, n9, n10, n11, n12, n13, n14, osl, rfl, q, k1, dflB_ok k3, kwdB_ok k4⟩, kp⟩
    | _ => cases c2
/-! ### places -/
def pgA (K : PySem.W.Frag) (p : Addr) : Addr := match PySem.W.recIn K p "property" with
  | some (.ref g :: _) => g
  | _ => 0
def aG (x : Str) : PySem.W.Frag → Addr := fun K => ga K x
def aM (x m : Str) : PySem.W.Frag → Addr := fun K => ma K (ga K x) m
def aP (x m : Str) : PySem.W.Frag → Addr := fun K => pgA K (ma K (ga K x) m)
/-! ### facts -/
abbrev Ft : Type := PySem.W.Frag → Bool
def fGlo (x : Str) : Ft := fun K => (Fa.glo x).ok K
def fFree (x : Str) : Ft := fun K => (Fa.free x).ok K
def fInt (x : Str) (i : Int) : Ft := fun K => (Fa.int x i).ok K
def fStr (x z : Str) : Ft := fun K => (Fa.str x z).ok K
def fCls (x : Str) : Ft := fun K => (Fa.cls x).ok K
def fNo (x f : Str) : Ft := fun K => (Fa.noat x f).ok K
def fMeth (x m : Str) : Ft := fun K => (Fa.meth x m).ok K
def fMkr (x : Str) : Ft := fun K => (Fa.mkr x).ok K
def fProp (x f : Str) : Ft := fun K => eqO (PySem.W.findIn K (.ref (ga K x)) f) (some (some (.ref (ma K (ga K x) f)))) && (decide (PySem.W.specialIn K (.ref (ma K (ga K x) f)) "__get__" = some (some (.builtin "property.__get__"))) &&
  (decide (PySem.W.takesIn K (.ref (ma K (ga K x) f)) = some true) && (match PySem.W.recIn K (ma K (ga K x) f) "property" with
    | some (.ref _ :: _) => true
    | _ => false)))
def fCon (x f : Str) (v : Dv) : Ft := fun K => (match PySem.W.findIn K (.ref (ga K x)) f with
  | some (some u) => relB (v.v K) u && (decide (PySem.W.specialIn K u "__get__" = some none) && !PySem.W.copiedNames.contains f)
  | _ => false)
def fKit (t c : PySem.W.Frag → Value) (b : Bool) : Ft := fun K => decide (PySem.W.kitOne K (t K) (c K) = some b)
/-- isinstance's look at an instance of x -/
def fIns (x : Str) : Ft := fun K => eqO (PySem.W.findIn K (.ref (ga K x)) "__class__") (some (some (.builtin "object.__class__"))) && (decide (PySem.W.specialIn K (.builtin "object.__class__") "__get__" = some (some (.builtin "getset_descriptor.__get__"))) &&
  (decide (PySem.W.takesIn K (.builtin "object.__class__") = some true) && decide (PySem.W.mroIn K (ga K x) (.type "object") = some true)))
section
variable {K : PySem.W.Frag} {x f : Str}
theorem prop_ok (c : fProp x f K = true) : PropOf K (ga K x) f (ma K (ga K x) f) (pgA K (ma K (ga K x) f)) := by
  obtain ⟨c1, c⟩ := ba c
  obtain ⟨c2, c⟩ := ba c
  obtain ⟨c3, c4⟩ := ba c
  refine ⟨eqO_ok c1, of_decide_eq_true c2, of_decide_eq_true c3, ?_⟩
  unfold pgA
  cases q : PySem.W.recIn K (ma K (ga K x) f) "property" with
  | none =>
    rw [q] at c4
    cases c4
  | some l =>
    rw [q] at c4
    cases l with
    | nil => cases c4
    | cons a r =>
      cases a with
      | ref g => exact ⟨r, rfl⟩
      | _ => cases c4
theorem con_ok {v : Dv} (c : fCon x f v K = true) : ∃ u, Con K (ga K x) f (v.v K) u := by
  unfold fCon at c
  cases q : PySem.W.findIn K (.ref (ga K x)) f with
  | none =>
    rw [q] at c
    cases c
  | some o =>
    rw [q] at c
    cases o with
    | none => cases c
    | some u =>
      obtain ⟨c1, c⟩ := ba (show (relB (v.v K) u && (decide (PySem.W.specialIn K u "__get__" = some none) && !PySem.W.copiedNames.contains f)) = true from c)
      obtain ⟨c2, c3⟩ := ba c
      exact ⟨u, q, relB_ok c1, of_decide_eq_true c2, by simpa using c3⟩
theorem kit_ok {t c : PySem.W.Frag → Value} {b : Bool} (h : fKit t c b K = true) : PySem.W.kitOne K (t K) (c K) = some b := of_decide_eq_true h
theorem ins_ok (cl : Cls K (ga K x)) (c : fIns x K = true) {H : Hp} {a dx : Addr} {fs : List (Str × V)} (e : H a = some (.ins (ga K x) dx fs)) : TyOf K H (.ref a) (.ref (ga K x)) := by
  obtain ⟨c1, c⟩ := ba c
  obtain ⟨c2, c⟩ := ba c
  obtain ⟨c3, c4⟩ := ba c
  exact .ins e cl (eqO_ok c1) (of_decide_eq_true c2) (of_decide_eq_true c3) (of_decide_eq_true c4)
end
/-! ### the Hook -/
abbrev AlX : Type := Bool × List FX
def obsX (fa : List Ft) (fn : List DX) (K : PySem.W.Frag) : AlX := ((fa.all fun f => f K) && fn.all fun d => d.ok K, fn.map fun d => fnX K (d.at_ K))
def valX (fn : List DX) : AlX := (true, fn.map DX.val)
def SaysX (fa : List Ft) (fn : List DX) (K : PySem.W.Frag) : Prop := obsX fa fn K = valX fn
def obsXG (n : Nat) (fa : List Ft) (fn : List DX) (g : Addr → Option Obj) : AlX := obsX fa fn (frG g (List.range n))
def hookX (n : Nat) (fa : List Ft) (fn : List DX) : PySem.W.Hook where
  α := AlX
  obs := fun s => obsXG n fa fn s.heap.get?
  val := fun _ => valX fn
  says := fun _ h => ∃ K : PySem.W.Frag, K.In h ∧ SaysX fa fn K
  of := fun _ _ e => ⟨_, frG_in, e⟩
  keeps := fun _ _ _ ⟨K, hK, c⟩ k => ⟨K, PySem.W.Frag.In.keeps hK k, c⟩
theorem obsXG_eq {n : Nat} {fa : List Ft} {fn : List DX} {g : Addr → Option Obj} {s : Shared} (h : ∀ a, g a = s.heap.get? a) : obsXG n fa fn g = (hookX n fa fn).obs s := by
  have e : g = s.heap.get? := funext h
  rw [e] <;> rfl
section
variable {fa : List Ft} {fn : List DX} {K : PySem.W.Frag}
theorem SaysX.fact (c : SaysX fa fn K) (i : Nat) {f : Ft} (h : fa[i]? = some f := by rfl) : f K = true := by
  have c1 := (ba (show ((fa.all fun f => f K) && fn.all fun d => d.ok K) = true from congrArg (fun z : AlX => z.1) c)).1
  exact List.all_eq_true.mp c1 f (List.mem_of_getElem? h)
theorem SaysX.def_ (c : SaysX fa fn K) (i : Nat) {d : DX} (h : fn[i]? = some d := by rfl) : ∃ fd, FunX K d fd := by
  have c2 := (ba (show ((fa.all fun f => f K) && fn.all fun d => d.ok K) = true from congrArg (fun z : AlX => z.1) c)).2
  have e : fn.map (fun d => fnX K (d.at_ K)) = fn.map DX.val := congrArg (fun z : AlX => z.2) c
  have e2 : (fn.map fun d => fnX K (d.at_ K))[i]? = (fn.map DX.val)[i]? := by rw [e]
  rw [List.getElem?_map, List.getElem?_map, h] at e2
  exact DX.funD (Option.some.inj e2) (List.all_eq_true.mp c2 d (List.mem_of_getElem? h))
end
/-- what every def's theorem leans on -/
structure Tx (fa : List Ft) (fn : List DX) (K : PySem.W.Frag) (mg : Str → Option Value) : Prop where
  c : SaysX fa fn K
  g : ∃ h : Heap, K.In h ∧ h.Ns mainGlobals mg
section
variable {fa : List Ft} {fn : List DX} {K : PySem.W.Frag} {mg : Str → Option Value}
theorem Tx.glo (T : Tx fa fn K mg) {x : Str} (c : fGlo x K = true) : mg x = some (.ref (ga K x)) := let ⟨_, X, G⟩ := T.g; glo_ok X G c
theorem Tx.free (T : Tx fa fn K mg) {x : Str} (c : fFree x K = true) : mg x = none := let ⟨_, X, G⟩ := T.g; free_ok X G c
theorem Tx.int (T : Tx fa fn K mg) {x : Str} {i : Int} (c : fInt x i K = true) : ∃ t, mg x = some (.int i t) := let ⟨_, X, G⟩ := T.g; int_ok X G c
theorem Tx.str (T : Tx fa fn K mg) {x z : Str} (c : fStr x z K = true) : ∃ t, mg x = some (.str z t) := let ⟨_, X, G⟩ := T.g; str_ok X G c
end
/-- a module's int, text -/
theorem pe_gint {X : Cx} {x : Str} {i : Int} {pos : Pos} (hg : Gl X x) (hm : ∃ t, X.mg x = some (.int i t)) (hd : (x == ("__debug__" : Str)) = false := by decide) : PE X (.Name x pos) (tC (.int i)) := let ⟨_, h⟩ := hm; pe_glob hg h ⟨_, rfl⟩ hd
theorem pe_gstr {X : Cx} {x z : Str} {pos : Pos} (hg : Gl X x) (hm : ∃ t, X.mg x = some (.str z t)) (hd : (x == ("__debug__" : Str)) = false := by decide) : PE X (.Name x pos) (tC (.str z)) := let ⟨_, h⟩ := hm; pe_glob hg h ⟨_, rfl⟩ hd
end FH

/-! Readings, step by step: each reading at known slots says what is left. -/
namespace FR
open PySem PySem.Spec PyProof.Rows L2 FL

/-- the two branches of an if, kept shut until the test is known -/
def ifK (t u : TS) (D : Ends) (σ : L2.St) (b : Bool) (H : Hp) : Prop := if b = true then t D σ H else u D σ H
def ifE (ta tb : TE) (σ : L2.St) (Q : VK) (b : Bool) (H : Hp) : Prop := if b = true then ta σ H Q else tb σ H Q
def andK (tb : TE) (σ : L2.St) (Q : VK) (b : Bool) (H : Hp) : Prop := if b = true then tb σ H Q else Q (.bl false) H
def andT (u : TT) (σ : L2.St) (Q : Bool → Hp → Prop) (b : Bool) (H : Hp) : Prop := if b = true then u σ H Q else Q false H
def orT (u : TT) (σ : L2.St) (Q : Bool → Hp → Prop) (b : Bool) (H : Hp) : Prop := if b = true then Q true H else u σ H Q
def orK (tb : TE) (σ : L2.St) (Q : VK) (b : Bool) (H : Hp) : Prop := if b = true then Q (.bl true) H else tb σ H Q
section
variable {σ : L2.St} {H : Hp} {Q : VK} {D : Ends} {ta tb tc te : TE} {t u : TS} {c : TT} {ts tr : TA} {v : V} {i : Nat} {b : Bool} {r r' : R2}
theorem ifK_t : ifK t u D σ true H = t D σ H := if_pos rfl
theorem ifK_f : ifK t u D σ false H = u D σ H := if_neg Bool.false_ne_true
theorem ifE_t : ifE ta tb σ Q true H = ta σ H Q := if_pos rfl
theorem ifE_f : ifE ta tb σ Q false H = tb σ H Q := if_neg Bool.false_ne_true
theorem andK_t : andK tb σ Q true H = tb σ H Q := if_pos rfl
theorem andK_f : andK tb σ Q false H = Q (.bl false) H := if_neg Bool.false_ne_true
theorem orK_t : orK tb σ Q true H = Q (.bl true) H := if_pos rfl
theorem orK_f : orK tb σ Q false H = tb σ H Q := if_neg Bool.false_ne_true
theorem andT_t {u : TT} {Q : Bool → Hp → Prop} : andT u σ Q true H = u σ H Q := if_pos rfl
theorem andT_f {u : TT} {Q : Bool → Hp → Prop} : andT u σ Q false H = Q false H := if_neg Bool.false_ne_true
theorem orT_t {u : TT} {Q : Bool → Hp → Prop} : orT u σ Q true H = Q true H := if_pos rfl
theorem orT_f {u : TT} {Q : Bool → Hp → Prop} : orT u σ Q false H = u σ H Q := if_neg Bool.false_ne_true
theorem r_and {u : TT} {Q : Bool → Hp → Prop} : tAnd c u σ H Q = c σ H (andT u σ Q) := propext Iff.rfl
theorem r_or {u : TT} {Q : Bool → Hp → Prop} : tOr c u σ H Q = c σ H (orT u σ Q) := propext Iff.rfl
theorem r_var (h : σ[i]? = some (some v)) : tVar i σ H Q = Q v H := by
  unfold tVar
  rw [h]
  simp
theorem r_c : tC v σ H Q = Q v H := propext Iff.rfl
theorem r_seq : tSeq t u D σ H = t { D with nx := u D } σ H := propext Iff.rfl
theorem r_next : tNext D σ H = D.nx σ H := propext Iff.rfl
theorem r_break : tBreak D σ H = D.bk σ H := propext Iff.rfl
theorem r_cont : tCont D σ H = D.ct σ H := propext Iff.rfl
theorem r_drop : tDrop te D σ H = te σ H (fun _ H1 => D.nx σ H1) := propext Iff.rfl
theorem r_ret : tRet te D σ H = te σ H D.rt := propext Iff.rfl
theorem r_retN : tRetN D σ H = D.rt .non H := propext Iff.rfl
theorem r_if : tIfS c t u D σ H = c σ H (ifK t u D σ) := propext Iff.rfl
theorem r_ife : tIf c ta tb σ H Q = c σ H (ifE ta tb σ Q) := propext Iff.rfl
theorem r_asg {g : TG} : tAsg te g D σ H = te σ H (fun x H1 => g x σ H1 D.nx) := propext Iff.rfl
theorem r_name {k : L2.St → Hp → Prop} : gName i v σ H k = k (σ.set i (some v)) H := propext Iff.rfl
theorem r_op : tOp r ta tb σ H Q = ta σ H (fun x H1 => tb σ H1 (fun y H2 => r x y H2 Q)) := propext Iff.rfl
theorem r_un {w : V → Hp → VK → Prop} : tUn w ta σ H Q = ta σ H (fun x H1 => w x H1 Q) := propext Iff.rfl
theorem r_nil {k : List V → Hp → Prop} : tNil σ H k = k [] H := propext Iff.rfl
theorem r_cons {k : List V → Hp → Prop} : tCons ta tr σ H k = ta σ H (fun x H1 => tr σ H1 (fun xs H2 => k (x :: xs) H2)) := propext Iff.rfl
theorem r_lst : tLst ts σ H Q = ts σ H (fun xs H1 => xs.length ≤ sizeLine ∧ ∀ p, H1 p = none → Q (.ref p) (upd H1 p (.lst xs))) := propext Iff.rfl
theorem r_tup : tTup ts σ H Q = ts σ H (fun xs H1 => xs.length ≤ sizeLine ∧ ∀ p, H1 p = none → Q (.ref p) (upd H1 p (.tup xs))) := propext Iff.rfl
theorem r_cb {w : List V → Hp → VK → Prop} : tCB w ts σ H Q = ts σ H (fun vs H1 => w vs H1 Q) := propext Iff.rfl
theorem r_test {k : Bool → Hp → Prop} : tTest te σ H k = te σ H (fun x H' => ∃ b, x = .bl b ∧ k b H') := propext Iff.rfl
theorem r_b {k : Bool → Hp → Prop} : tB te σ H k = te σ H (fun x H' => ∃ b, x = .bl b ∧ k b H') := propext Iff.rfl
theorem r_not {k : Bool → Hp → Prop} : tNot c σ H k = c σ H (fun b H1 => k (!b) H1) := propext Iff.rfl
theorem r_notV : tNotV te σ H Q = te σ H (fun x H1 => ∃ b, x = .bl b ∧ Q (.bl (!b)) H1) := propext Iff.rfl
theorem r_andV : tAndV ta tb σ H Q = ta σ H (fun x H1 => ∃ b, x = .bl b ∧ andK tb σ Q b H1) := propext Iff.rfl
theorem r_orV : tOrV ta tb σ H Q = ta σ H (fun x H1 => ∃ b, x = .bl b ∧ orK tb σ Q b H1) := propext Iff.rfl
theorem r_isN : tIsN ta σ H Q = ta σ H (fun x H1 => Q (.bl (decide (x = .non))) H1) := propext Iff.rfl
theorem r_notN : tNotN ta σ H Q = ta σ H (fun x H1 => Q (.bl (!decide (x = .non))) H1) := propext Iff.rfl
theorem r_par {i j : Nat} : tPar i j ts D σ H = ts σ H (fun vs H1 => ∃ v w, vs = [v, w] ∧ D.nx ((σ.set i (some v)).set j (some w)) H1) := propext Iff.rfl
theorem r_sub {to ti : TE} {w : TSet} {k : L2.St → Hp → Prop} : gSub to ti w v σ H k = to σ H (fun o H1 => ti σ H1 (fun i H2 => w o i v H2 (fun H3 => k σ H3))) := propext Iff.rfl
theorem r_gtup {K : PySem.W.Frag} {n : Nat} {t : TGs} {k : L2.St → Hp → Prop} : gTup K n t v σ H k = ∃ a xs, v = .ref a ∧ SqT K H a xs ∧ xs.length = n ∧ t xs σ H k := propext Iff.rfl
theorem r_gnil {vs : List V} {k : L2.St → Hp → Prop} : gNil vs σ H k = (vs = [] ∧ k σ H) := propext Iff.rfl
theorem r_gcons {vs : List V} {t : TG} {u : TGs} {k : L2.St → Hp → Prop} : gCons t u vs σ H k = ∃ v r, vs = v :: r ∧ t v σ H (fun σ' H' => u r σ' H' k) := propext Iff.rfl
theorem r_sl {w : V → Option Int → Option Int → Hp → VK → Prop} {tl th : TO} : tSl w te tl th σ H Q = te σ H (fun x H1 => tl σ H1 (fun l H2 => th σ H2 (fun u H3 => w x l u H3 Q))) := propext Iff.rfl
theorem r_nopart {k : Option Int → Hp → Prop} : tNoPart σ H k = k none H := propext Iff.rfl
theorem r_part {k : Option Int → Hp → Prop} : tPart te σ H k = te σ H (fun x H1 => ∃ i, x = .int i ∧ k (some i) H1) := propext Iff.rfl
theorem r_bm {K : PySem.W.Frag} {T : String} {w : V → List V → Hp → VK → Prop} : tBM K T w te ts σ H Q = te σ H (fun x H1 => tyV K T x H1 ∧ ts σ H1 (fun xs H2 => w x xs H2 Q)) := propext Iff.rfl
theorem r_bm0 {K : PySem.W.Frag} {T : String} {w : V → List V → Hp → VK → Prop} : tBM0 K T w te σ H Q = te σ H (fun x H1 => tyV K T x H1 ∧ w x [] H1 Q) := propext Iff.rfl
theorem r_chain : tChain r r' ta tb tc σ H Q = ta σ H (fun x H1 => tb σ H1 (fun y H2 => r x y H2 (fun z H3 => ∃ k, z = .bl k ∧ andK (fun σ H Q => tc σ H (fun z H4 => r' y z H4 Q)) σ Q k H3))) := by
  unfold tChain andK
  rfl
theorem r_call {sp : Sp} {E : XK} : cCall sp E ts σ H Q = ts σ H (fun vs H1 => sp vs H1 Q E) := propext Iff.rfl
theorem r_callK {m : Nat} {sp : Sp} {E : XK} : cCallK m sp E ts tr σ H Q = ts σ H (fun vs H1 => tr σ H1 (fun zs H2 => zs.length = m ∧ sp (vs ++ zs) H2 Q E)) := propext Iff.rfl
theorem r_meth {C : Addr} {m : Str} {sp : Sp} {E : XK} : cMeth C m sp E te ts σ H Q = te σ H (fun x H1 => ∃ a dx fs, x = .ref a ∧ H1 a = some (.ins C dx fs) ∧ fs.lookup m = none ∧ ts σ H1 (fun vs H2 => sp (x :: vs) H2 Q E)) := propext Iff.rfl
theorem r_prop {C : Addr} {sp : Sp} {E : XK} : cProp C sp E te σ H Q = te σ H (fun x H1 => ∃ a dx fs, x = .ref a ∧ H1 a = some (.ins C dx fs) ∧ sp [.ref a] H1 Q E) := propext Iff.rfl
theorem r_make {C : Addr} {sp : Sp} {E : XK} : cMake C sp E ts σ H Q = ts σ H (fun vs H1 => ∀ x dx, H1 x = none → H1 dx = none → dx ≠ x → sp (.ref x :: vs) (upd (upd H1 dx (.own x)) x (.ins C dx [])) (fun v H2 => v = .non ∧ Q (.ref x) H2) E) := propext Iff.rfl
theorem upd_o {p q : Addr} {o : HO} (hp : H p = none) (hq : (H q).isSome = true) : upd H p o q = H q := by
  refine upd_ne (fun e => ?_)
  subst e
  rw [hp] at hq
  cases hq
theorem some_is {α : Type} {a : α} : (some a).isSome = true := rfl
end
theorem at0 {α : Type} {x0 : α} {xs : List α} : atI (x0 :: xs) 0 = some x0 := by
  unfold atI ixN
  rw [if_pos (by decide), if_pos (by simp only [List.length_cons]; omega)] <;> rfl
theorem at1 {α : Type} {x0 x1 : α} {xs : List α} : atI (x0 :: x1 :: xs) 1 = some x1 := by
  unfold atI ixN
  rw [if_pos (by decide), if_pos (by simp only [List.length_cons]; omega)] <;> rfl
theorem at2 {α : Type} {x0 x1 x2 : α} {xs : List α} : atI (x0 :: x1 :: x2 :: xs) 2 = some x2 := by
  unfold atI ixN
  rw [if_pos (by decide), if_pos (by simp only [List.length_cons]; omega)] <;> rfl
theorem at3 {α : Type} {x0 x1 x2 x3 : α} {xs : List α} : atI (x0 :: x1 :: x2 :: x3 :: xs) 3 = some x3 := by
  unfold atI ixN
  rw [if_pos (by decide), if_pos (by simp only [List.length_cons]; omega)] <;> rfl
theorem at4 {α : Type} {x0 x1 x2 x3 x4 : α} {xs : List α} : atI (x0 :: x1 :: x2 :: x3 :: x4 :: xs) 4 = some x4 := by
  unfold atI ixN
  rw [if_pos (by decide), if_pos (by simp only [List.length_cons]; omega)] <;> rfl
theorem at5 {α : Type} {x0 x1 x2 x3 x4 x5 : α} {xs : List α} : atI (x0 :: x1 :: x2 :: x3 :: x4 :: x5 :: xs) 5 = some x5 := by
  unfold atI ixN
  rw [if_pos (by decide), if_pos (by simp only [List.length_cons]; omega)] <;> rfl
theorem at6 {α : Type} {x0 x1 x2 x3 x4 x5 x6 : α} {xs : List α} : atI (x0 :: x1 :: x2 :: x3 :: x4 :: x5 :: x6 :: xs) 6 = some x6 := by
  unfold atI ixN
  rw [if_pos (by decide), if_pos (by simp only [List.length_cons]; omega)] <;> rfl
theorem at7 {α : Type} {x0 x1 x2 x3 x4 x5 x6 x7 : α} {xs : List α} : atI (x0 :: x1 :: x2 :: x3 :: x4 :: x5 :: x6 :: x7 :: xs) 7 = some x7 := by
  unfold atI ixN
  rw [if_pos (by decide), if_pos (by simp only [List.length_cons]; omega)] <;> rfl
theorem at8 {α : Type} {x0 x1 x2 x3 x4 x5 x6 x7 x8 : α} {xs : List α} : atI (x0 :: x1 :: x2 :: x3 :: x4 :: x5 :: x6 :: x7 :: x8 :: xs) 8 = some x8 := by
  unfold atI ixN
  rw [if_pos (by decide), if_pos (by simp only [List.length_cons]; omega)] <;> rfl
theorem at9 {α : Type} {x0 x1 x2 x3 x4 x5 x6 x7 x8 x9 : α} {xs : List α} : atI (x0 :: x1 :: x2 :: x3 :: x4 :: x5 :: x6 :: x7 :: x8 :: x9 :: xs) 9 = some x9 := by
  unfold atI ixN
  rw [if_pos (by decide), if_pos (by simp only [List.length_cons]; omega)] <;> rfl
theorem at10 {α : Type} {x0 x1 x2 x3 x4 x5 x6 x7 x8 x9 x10 : α} {xs : List α} : atI (x0 :: x1 :: x2 :: x3 :: x4 :: x5 :: x6 :: x7 :: x8 :: x9 :: x10 :: xs) 10 = some x10 := by
  unfold atI ixN
  rw [if_pos (by decide), if_pos (by simp only [List.length_cons]; omega)] <;> rfl
theorem at11 {α : Type} {x0 x1 x2 x3 x4 x5 x6 x7 x8 x9 x10 x11 : α} {xs : List α} : atI (x0 :: x1 :: x2 :: x3 :: x4 :: x5 :: x6 :: x7 :: x8 :: x9 :: x10 :: x11 :: xs) 11 = some x11 := by
  unfold atI ixN
  rw [if_pos (by decide), if_pos (by simp only [List.length_cons]; omega)] <;> rfl
theorem at12 {α : Type} {x0 x1 x2 x3 x4 x5 x6 x7 x8 x9 x10 x11 x12 : α} {xs : List α} : atI (x0 :: x1 :: x2 :: x3 :: x4 :: x5 :: x6 :: x7 :: x8 :: x9 :: x10 :: x11 :: x12 :: xs) 12 = some x12 := by
  unfold atI ixN
  rw [if_pos (by decide), if_pos (by simp only [List.length_cons]; omega)] <;> rfl
theorem at13 {α : Type} {x0 x1 x2 x3 x4 x5 x6 x7 x8 x9 x10 x11 x12 x13 : α} {xs : List α} : atI (x0 :: x1 :: x2 :: x3 :: x4 :: x5 :: x6 :: x7 :: x8 :: x9 :: x10 :: x11 :: x12 :: x13 :: xs) 13 = some x13 := by
  unfold atI ixN
  rw [if_pos (by decide), if_pos (by simp only [List.length_cons]; omega)] <;> rfl
theorem ix3_0 : ixN 3 0 = some 0 := rfl
theorem ix3_1 : ixN 3 1 = some 1 := rfl
theorem ix3_2 : ixN 3 2 = some 2 := rfl
theorem atI_of {α : Type} {xs : List α} {i : Int} (h0 : 0 ≤ i) (h1 : i < xs.length) : ∃ v, atI xs i = some v ∧ xs[i.toNat]? = some v := by
  unfold atI ixN
  rw [if_pos h0, if_pos h1]
  have : i.toNat < xs.length := by omega
  exact ⟨xs[i.toNat], by simp [this], by simp [this]⟩
theorem fits {n : Nat} (h : n ≤ 16777216) : n ≤ sizeLine := by
  rw [sizeLine_eq]
  exact h
/-! values: tracked lists and tuples -/
def rIxLH : R2 := fun x y H Q => ∃ p i, x = .ref p ∧ y = .int i ∧ ∃ xs, H p = some (.lst xs) ∧ ∃ v, atI xs i = some v ∧ Q v H
def rIxTH : R2 := fun x y H Q => ∃ p i, x = .ref p ∧ y = .int i ∧ ∃ xs, H p = some (.tup xs) ∧ ∃ v, atI xs i = some v ∧ Q v H
def rLenH : List V → Hp → VK → Prop := fun xs H Q => ∃ p, xs = [.ref p] ∧ ∃ ys, H p = some (.lst ys) ∧ Q (.int ys.length) H
def rLenTH : List V → Hp → VK → Prop := fun xs H Q => ∃ p, xs = [.ref p] ∧ ∃ ys, H p = some (.tup ys) ∧ Q (.int ys.length) H
section
variable {X : Cx}
theorem IxR.mono {r r' : R2} (h : IxR X r) (k : ∀ x y H Q, r' x y H Q → r x y H Q) : IxR X r' := fun v s pins sh σ H x y a b Q I r1 r2 q => h v s pins sh σ H x y a b Q I r1 r2 (k _ _ _ _ q)
theorem CallR.mono {f : Value} {r r' : List V → Hp → VK → Prop} (h : CallR X f r) (k : ∀ x H Q, r' x H Q → r x H Q) : CallR X f r' := fun pins s σ H xs us Q I rv q => h pins s σ H xs us Q I rv (k _ _ _ q)
theorem ix_lh : IxR X rIxLH := IxR.mono ix_list fun x y H Q ⟨p, i, e1, e2, xs, h, v, a, q⟩ => ⟨p, xs, i, v, e1, e2, SqL.of h, a, q⟩
theorem ix_th : IxR X rIxTH := IxR.mono ix_tup fun x y H Q ⟨p, i, e1, e2, xs, h, v, a, q⟩ => ⟨p, xs, i, v, e1, e2, SqT.of h, a, q⟩
theorem call_len_lh : CallR X (.builtin "len") rLenH := CallR.mono call_len fun x H Q ⟨p, e, ys, h, q⟩ => ⟨.ref p, ys.length, e, .inl ⟨ys, SqL.of h, rfl⟩, q⟩
theorem call_len_th : CallR X (.builtin "len") rLenTH := CallR.mono call_len fun x H Q ⟨p, e, ys, h, q⟩ => ⟨.ref p, ys.length, e, .inr ⟨ys, SqT.of h, rfl⟩, q⟩
end
theorem scal_ii {i j : Int} : scal (.int i) (.int j) = true := rfl
theorem scal_ss {i j : Str} : scal (.str i) (.str j) = true := rfl
theorem scal_bb {i j : Bool} : scal (.bl i) (.bl j) = true := rfl
theorem scal_is {i : Int} {j : Str} : scal (.int i) (.str j) = true := rfl
theorem scal_si {i : Str} {j : Int} : scal (.str i) (.int j) = true := rfl
theorem scal_ns {j : Str} : scal .non (.str j) = true := rfl
theorem scal_ni {j : Int} : scal .non (.int j) = true := rfl
theorem scal_in {j : Int} : scal (.int j) .non = true := rfl
theorem scal_sn {j : Str} : scal (.str j) .non = true := rfl
theorem scal_nn : scal .non .non = true := rfl
/-! new objects -/
def IsNew (H : Hp) (p : Addr) (o : HO) (H2 : Hp) : Prop := H p = none ∧ H2 = upd H p o
/-- all but a stays -/
def Oth (a : Addr) (H H' : Hp) : Prop := ∀ b o, b ≠ a → H b = some o → H' b = some o
theorem Oth.refl {a : Addr} {H : Hp} : Oth a H H := fun _ _ _ h => h
theorem Oth.trans {a : Addr} {H H1 H2 : Hp} (h : Oth a H H1) (k : Oth a H1 H2) : Oth a H H2 := fun b o n e => k b o n (h b o n e)
theorem Oth.of {a : Addr} {H H1 : Hp} (h : Same H H1) : Oth a H H1 := fun b o _ e => h b o e
theorem Oth.new {a p : Addr} {o : HO} {H H1 H2 : Hp} (h : Oth a H H1) (n : IsNew H1 p o H2) : Oth a H H2 := fun b x k e => by
  have z := h b x k e
  rw [n.2, upd_o n.1 (by rw [z]; rfl)]
  exact z
theorem Oth.set {a : Addr} {o : HO} {H H1 : Hp} (h : Oth a H H1) : Oth a H (upd H1 a o) := fun b x n e => by
  rw [upd_ne n]
  exact h b x n e
theorem Oth.fresh {a p : Addr} {o : HO} {H H1 : Hp} (h : Oth a H H1) (n : H p = none) : Oth a H (upd H1 p o) := fun b x k e => by
  rw [upd_ne (fun z => by subst z; rw [n] at e; cases e)]
  exact h b x k e
section
variable {H H1 H2 : Hp} {p b : Addr} {o x : HO}
theorem IsNew.at_ (n : IsNew H p o H2) : H2 p = some o := by rw [n.2]; exact upd_same
theorem IsNew.old (n : IsNew H p o H2) (h : H b = some x) : H2 b = some x := by
  rw [n.2, upd_o n.1 (by rw [h]; rfl)]
  exact h
theorem IsNew.same (n : IsNew H p o H2) : Same H H2 := fun _ _ h => n.old h
theorem IsNew.ne (n : IsNew H p o H2) (h : H b = some x) : b ≠ p := fun e => by
  subst e
  rw [n.1] at h
  cases h
theorem same_refl : Same H H := fun _ _ h => h
theorem same_trans (h : Same H H1) (k : Same H1 H2) : Same H H2 := fun b o e => k b o (h b o e)
end
def lcK (g : TG) (tt : TT) (te : TE) (vs : List Nat) (σ : L2.St) (Q : VK) (J : It) (H1 : Hp) : Prop := ∀ D, H1 D = none → ∃ W : Nat → Nat → Hp → Prop, (∃ m, W 0 m (upd H1 D (.lst []))) ∧ ∀ i m H, W i m H →
  (J.stop i H ∧ Q (.ref D) H) ∨ (J.go i H ∧ ∃ Nx : Hp → Prop, (∀ H', Nx H' → ∃ m', m' < m ∧ W (i + 1) m' H') ∧ ∀ x H', J.yld i H x H' → g x (wipe σ vs) H' fun σ2 H2 => wipe σ2 vs = wipe σ vs ∧ tt σ2 H2 fun b H3 =>
    if b = true then te σ2 H3 fun y H4 => ∃ acc, H4 D = some (.lst acc) ∧ acc.length < sizeLine ∧ Nx (upd H4 D (.lst (acc ++ [y]))) else Nx H3)
def forK (g : TG) (tb : TS) (D : Ends) (σ : L2.St) (J : It) (H1 : Hp) : Prop := ∃ W : Nat → Nat → L2.St → Hp → Prop, (∃ m, W 0 m σ H1) ∧ ∀ i m σ H, W i m σ H →
  (J.stop i H ∧ D.nx σ H) ∨ (J.go i H ∧ ∃ N : L2.St → Hp → Prop, (∀ σ' H', N σ' H' → ∃ m', m' < m ∧ W (i + 1) m' σ' H') ∧ ∀ x H', J.yld i H x H' → g x σ H' fun σ2 H2 => tb { D with nx := N, ct := N, bk := D.nx } σ2 H2)
section
variable {σ : L2.St} {H : Hp} {Q : VK} {D : Ends} {wi : TI} {g : TG} {tt : TT} {te : TE} {vs : List Nat} {tb : TS} {K : PySem.W.Frag} {ts : TA} {R : It → Hp → Prop}
theorem r_lc : tLc wi g tt te vs σ H Q = wi σ H (lcK g tt te vs σ Q) := propext Iff.rfl
theorem r_for : tFor wi g tb D σ H = wi σ H (forK g tb D σ) := propext Iff.rfl
theorem r_ilist : iList K te σ H R = te σ H (fun x H1 => ∃ a, x = .ref a ∧ (∃ xs, SqL K H1 a xs) ∧ R (Itl K a) H1) := propext Iff.rfl
theorem r_itup : iTup K te σ H R = te σ H (fun x H1 => ∃ a, x = .ref a ∧ (∃ xs, SqT K H1 a xs) ∧ R (Itt K a) H1) := propext Iff.rfl
theorem r_istr : iStr te σ H R = te σ H (fun x H1 => ∃ z, x = .str z ∧ R (Its z) H1) := propext Iff.rfl
theorem r_irng1 : iRng1 ts σ H R = ts σ H (fun vs H1 => ∃ j : Int, vs = [.int j] ∧ -(2 ^ 62) ≤ j ∧ j < 2 ^ 62 ∧ R (Itr 0 j.toNat) H1) := propext Iff.rfl
theorem r_irng2 : iRng2 ts σ H R = ts σ H (fun vs H1 => ∃ i j : Int, vs = [.int i, .int j] ∧ (-(2 ^ 62) ≤ i ∧ i < 2 ^ 62 ∧ -(2 ^ 62) ≤ j ∧ j < 2 ^ 62) ∧ R (Itr i (j - i).toNat) H1) := propext Iff.rfl
theorem r_ienum : iEnum K ts σ H R = ts σ H (fun vs H1 => ∃ a xs, vs = [.ref a] ∧ SqL K H1 a xs ∧ R (Ite K a) H1) := propext Iff.rfl
theorem r_ienumS : iEnumS ts σ H R = ts σ H (fun vs H1 => ∃ x, vs = [.str x] ∧ R (Ies x) H1) := propext Iff.rfl
theorem r_lst2 : tLst ts σ H Q = ts σ H (fun xs H1 => xs.length ≤ sizeLine ∧ ∀ p H2, IsNew H1 p (.lst xs) H2 → Q (.ref p) H2) := by
  unfold tLst
  congr 1
  funext xs H1
  apply propext
  constructor
  · rintro ⟨a, b⟩
    exact ⟨a, fun p H2 ⟨n, e⟩ => by subst e; exact b p n⟩
  · rintro ⟨a, b⟩
    exact ⟨a, fun p n => b p _ ⟨n, rfl⟩⟩
theorem r_tup2 : tTup ts σ H Q = ts σ H (fun xs H1 => xs.length ≤ sizeLine ∧ ∀ p H2, IsNew H1 p (.tup xs) H2 → Q (.ref p) H2) := by
  unfold tTup
  congr 1
  funext xs H1
  apply propext
  constructor
  · rintro ⟨a, b⟩
    exact ⟨a, fun p H2 ⟨n, e⟩ => by subst e; exact b p n⟩
  · rintro ⟨a, b⟩
    exact ⟨a, fun p n => b p _ ⟨n, rfl⟩⟩
/-- the new item goes to the list at D -/
def addK (D : Addr) (N : Hp → Prop) (y : V) (H4 : Hp) : Prop := ∃ acc, H4 D = some (.lst acc) ∧ acc.length < sizeLine ∧ N (upd H4 D (.lst (acc ++ [y])))
def lcN (D : Addr) (i : Nat) (Pv : Addr → Nat → List V → Hp → Prop) (H : Hp) : Prop := ∃ acc, H D = some (.lst acc) ∧ acc.length = i ∧ Pv D i acc H
theorem addK_mk {D : Addr} {i : Nat} {acc : List V} {y : V} {H4 : Hp} {Pv : Addr → Nat → List V → Hp → Prop} (e : H4 D = some (.lst acc)) (l : acc.length = i) (hi : i < 16777215) (p : Pv D (i + 1) (acc ++ [y]) (upd H4 D (.lst (acc ++ [y])))) : addK D (lcN D (i + 1) Pv) y H4 := by
  refine ⟨acc, e, ?_, acc ++ [y], upd_same, by simp [l], p⟩
  have := sizeLine_eq
  omega
/-- a comprehension over a range, no test -/
theorem lcK_rng {lo : Int} {n : Nat} (Pv : Addr → Nat → List V → Hp → Prop) (h0 : ∀ D H0, IsNew H D (.lst []) H0 → Pv D 0 [] H0)
    (hs : ∀ D i acc H1, H D = none → i < n → H1 D = some (.lst acc) → acc.length = i → Pv D i acc H1 → g (.int (lo + i)) (wipe σ vs) H1 fun σ2 H2 => wipe σ2 vs = wipe σ vs ∧ te σ2 H2 (addK D (lcN D (i + 1) Pv)))
    (hd : ∀ D acc H1, H D = none → H1 D = some (.lst acc) → acc.length = n → Pv D n acc H1 → Q (.ref D) H1) : lcK g tYes te vs σ Q (Itr lo n) H := by
  intro D nD
  refine lc_range (fun i H1 => lcN D i Pv H1) ⟨[], upd_same, rfl, h0 D _ ⟨nD, rfl⟩⟩ ?_ ?_
  · rintro i H1 hi ⟨acc, e, l, p⟩
    have z := hs D i acc H1 nD hi e l p
    have q : (fun σ2 H2 => wipe σ2 vs = wipe σ vs ∧ tYes σ2 H2 fun b H3 => if b = true then te σ2 H3 fun y H4 => ∃ acc, H4 D = some (.lst acc) ∧ acc.length < sizeLine ∧ lcN D (i + 1) Pv (upd H4 D (.lst (acc ++ [y]))) else lcN D (i + 1) Pv H3) = (fun σ2 H2 => wipe σ2 vs = wipe σ vs ∧ te σ2 H2 (addK D (lcN D (i + 1) Pv))) := by
      funext σ2 H2
      congr 1
    rw [q]
    exact z
  · rintro H1 ⟨acc, e, l, p⟩
    exact hd D acc H1 nD e l p
theorem idx_lt {α : Type} {xs : List α} {i : Nat} {x : α} (h : xs[i]? = some x) : i < xs.length := by
  by_cases z : i < xs.length
  · exact z
  · rw [List.getElem?_eq_none (by omega)] at h
    cases h
/-- .. over a list, no test -/
theorem lcK_lst {a : Addr} {xs : List V} (Pv : Addr → Nat → List V → Hp → Prop) (h0 : ∀ D H0, IsNew H D (.lst []) H0 → Pv D 0 [] H0) (hl : ∀ D i acc H1, H D = none → Pv D i acc H1 → SqL K H1 a xs)
    (hs : ∀ D i x acc H1, H D = none → xs[i]? = some x → H1 D = some (.lst acc) → acc.length = i → Pv D i acc H1 → g x (wipe σ vs) H1 fun σ2 H2 => wipe σ2 vs = wipe σ vs ∧ te σ2 H2 (addK D (lcN D (i + 1) Pv)))
    (hd : ∀ D acc H1, H D = none → H1 D = some (.lst acc) → acc.length = xs.length → Pv D xs.length acc H1 → Q (.ref D) H1) : lcK g tYes te vs σ Q (Itl K a) H := by
  intro D nD
  refine lc_list (K := K) (a := a) (xs := xs) (fun i H1 => lcN D i Pv H1) ⟨[], upd_same, rfl, h0 D _ ⟨nD, rfl⟩⟩ (fun i H1 _ ⟨acc, _, _, p⟩ => hl D i acc H1 nD p) ?_ ?_
  · rintro i x H1 hi ⟨acc, e, l, p⟩
    have z := hs D i x acc H1 nD hi e l p
    have q : (fun σ2 H2 => wipe σ2 vs = wipe σ vs ∧ tYes σ2 H2 fun b H3 => if b = true then te σ2 H3 fun y H4 => ∃ acc, H4 D = some (.lst acc) ∧ acc.length < sizeLine ∧ lcN D (i + 1) Pv (upd H4 D (.lst (acc ++ [y]))) else lcN D (i + 1) Pv H3) = (fun σ2 H2 => wipe σ2 vs = wipe σ vs ∧ te σ2 H2 (addK D (lcN D (i + 1) Pv))) := by
      funext σ2 H2
      congr 1
    rw [q]
    exact z
  · rintro H1 ⟨acc, e, l, p⟩
    exact hd D acc H1 nD e l p
theorem lcK_tup {a : Addr} {xs : List V} (Pv : Addr → Nat → List V → Hp → Prop) (h0 : ∀ D H0, IsNew H D (.lst []) H0 → Pv D 0 [] H0) (hl : ∀ D i acc H1, H D = none → Pv D i acc H1 → SqT K H1 a xs)
    (hs : ∀ D i x acc H1, H D = none → xs[i]? = some x → H1 D = some (.lst acc) → acc.length = i → Pv D i acc H1 → g x (wipe σ vs) H1 fun σ2 H2 => wipe σ2 vs = wipe σ vs ∧ te σ2 H2 (addK D (lcN D (i + 1) Pv)))
    (hd : ∀ D acc H1, H D = none → H1 D = some (.lst acc) → acc.length = xs.length → Pv D xs.length acc H1 → Q (.ref D) H1) : lcK g tYes te vs σ Q (Itt K a) H := by
  intro D nD
  refine lc_tup (K := K) (a := a) (xs := xs) (fun i H1 => lcN D i Pv H1) ⟨[], upd_same, rfl, h0 D _ ⟨nD, rfl⟩⟩ (fun i H1 _ ⟨acc, _, _, p⟩ => hl D i acc H1 nD p) ?_ ?_
  · rintro i x H1 hi ⟨acc, e, l, p⟩
    have z := hs D i x acc H1 nD hi e l p
    have q : (fun σ2 H2 => wipe σ2 vs = wipe σ vs ∧ tYes σ2 H2 fun b H3 => if b = true then te σ2 H3 fun y H4 => ∃ acc, H4 D = some (.lst acc) ∧ acc.length < sizeLine ∧ lcN D (i + 1) Pv (upd H4 D (.lst (acc ++ [y]))) else lcN D (i + 1) Pv H3) = (fun σ2 H2 => wipe σ2 vs = wipe σ vs ∧ te σ2 H2 (addK D (lcN D (i + 1) Pv))) := by
      funext σ2 H2
      congr 1
    rw [q]
    exact z
  · rintro H1 ⟨acc, e, l, p⟩
    exact hd D acc H1 nD e l p
theorem forK_rng {lo : Int} {n : Nat} (Pv : Nat → L2.St → Hp → Prop) (h0 : Pv 0 σ H)
    (hs : ∀ i σ H, i < n → Pv i σ H → g (.int (lo + i)) σ H fun σ2 H2 => tb { D with nx := Pv (i + 1), ct := Pv (i + 1), bk := D.nx } σ2 H2) (hd : ∀ σ H, Pv n σ H → D.nx σ H) : forK g tb D σ (Itr lo n) H := for_range Pv h0 hs hd
theorem forK_lst {a : Addr} {xs : List V} (Pv : Nat → L2.St → Hp → Prop) (h0 : Pv 0 σ H) (hl : ∀ i σ H, i ≤ xs.length → Pv i σ H → SqL K H a xs)
    (hs : ∀ i x σ H, xs[i]? = some x → Pv i σ H → g x σ H fun σ2 H2 => tb { D with nx := Pv (i + 1), ct := Pv (i + 1), bk := D.nx } σ2 H2) (hd : ∀ σ H, Pv xs.length σ H → D.nx σ H) : forK g tb D σ (Itl K a) H := for_list Pv h0 hl hs hd
end
section
variable {σ : L2.St} {H : Hp} {Q : VK} {D : Ends} {g : TG} {te : TE} {vs : List Nat} {tb : TS} {J : It} {n : Nat} {G : Hp → Prop} {Y : Nat → Hp → V → Hp → Prop}
/-- a comprehension over anything that walks, no test -/
theorem lcK_it (w : Walk J n G Y) (Pv : Addr → Nat → List V → Hp → Prop) (h0 : ∀ D H0, IsNew H D (.lst []) H0 → Pv D 0 [] H0) (hG : ∀ D i acc H1, H D = none → i ≤ n → H1 D = some (.lst acc) → Pv D i acc H1 → G H1)
    (hs : ∀ D i x acc H1 H2, H D = none → i < n → H1 D = some (.lst acc) → acc.length = i → Pv D i acc H1 → Y i H1 x H2 → g x (wipe σ vs) H2 fun σ2 H3 => wipe σ2 vs = wipe σ vs ∧ te σ2 H3 (addK D (lcN D (i + 1) Pv)))
    (hd : ∀ D acc H1, H D = none → H1 D = some (.lst acc) → acc.length = n → Pv D n acc H1 → Q (.ref D) H1) : lcK g tYes te vs σ Q J H := by
  intro D nD
  refine lc_it w (fun i H1 => lcN D i Pv H1) ⟨[], upd_same, rfl, h0 D _ ⟨nD, rfl⟩⟩ (fun i H1 hi ⟨acc, e, _, p⟩ => hG D i acc H1 nD hi e p) ?_ ?_
  · rintro i x H1 H2 hi ⟨acc, e, l, p⟩ y
    have z := hs D i x acc H1 H2 nD hi e l p y
    have q : (fun σ2 H2 => wipe σ2 vs = wipe σ vs ∧ tYes σ2 H2 fun b H3 => if b = true then te σ2 H3 fun y H4 => ∃ acc, H4 D = some (.lst acc) ∧ acc.length < sizeLine ∧ lcN D (i + 1) Pv (upd H4 D (.lst (acc ++ [y]))) else lcN D (i + 1) Pv H3) = (fun σ2 H2 => wipe σ2 vs = wipe σ vs ∧ te σ2 H2 (addK D (lcN D (i + 1) Pv))) := by
      funext σ2 H2
      congr 1
    rw [q]
    exact z
  · rintro H1 ⟨acc, e, l, p⟩
    exact hd D acc H1 nD e l p
theorem forK_it (w : Walk J n G Y) (Pv : Nat → L2.St → Hp → Prop) (h0 : Pv 0 σ H) (hG : ∀ i σ H, i ≤ n → Pv i σ H → G H)
    (hs : ∀ i x σ H H', i < n → Pv i σ H → Y i H x H' → g x σ H' fun σ2 H2 => tb { D with nx := Pv (i + 1), ct := Pv (i + 1), bk := D.nx } σ2 H2) (hd : ∀ σ H, Pv n σ H → D.nx σ H) : forK g tb D σ J H := for_it w Pv h0 hG hs hd
theorem r_fld {K : PySem.W.Frag} {ta : TE} {f : Str} : tFld K ta f σ H Q = ta σ H (fun x H1 => ∃ a, x = .ref a ∧ ∃ C dx fs, H1 a = some (.ins C dx fs) ∧ Cls K C ∧ NoAttr K C f ∧ ∃ v, fs.lookup f = some v ∧ Q v H1) := by
  unfold tFld
  congr 1
  funext x H1
  apply propext
  constructor
  · rintro ⟨a, C, dx, fs, v, e, h, c, n, l, q⟩
    exact ⟨a, e, C, dx, fs, h, c, n, v, l, q⟩
  · rintro ⟨a, e, C, dx, fs, h, c, n, v, l, q⟩
    exact ⟨a, C, dx, fs, v, e, h, c, n, l, q⟩
end
section
variable {σ : L2.St} {H : Hp} {Q : VK} {g : TG} {te : TE} {vs : List Nat} {K : PySem.W.Frag} {a : Addr} {xs : List V} {J : It} {n : Nat}
theorem same_upd {D : Addr} {H1 : Hp} {o : HO} (nD : H D = none) (s : Same H H1) : Same H (upd H1 D o) := fun b x e => by
  rw [upd_ne (fun z => by subst z; rw [nD] at e; cases e)]
  exact s b x e
theorem r_m1 {r : V → List V → Hp → VK → Prop} {to : TE} : tM1 r to te σ H Q = to σ H (fun x H1 => (∃ a, x = .str a) ∧ te σ H1 (fun y H2 => r x [y] H2 Q)) := propext Iff.rfl
theorem r_m0 {r : V → List V → Hp → VK → Prop} {to : TE} : tM0 r to σ H Q = to σ H (fun x H1 => (∃ a, x = .str a) ∧ r x [] H1 Q) := propext Iff.rfl
/-- [e for x in xs], e makes new objects at most -/
theorem lcK_map {G : Hp → Prop} (w : Walk J xs.length G (YAt xs)) (hn : xs.length ≤ 16777215) (hG : ∀ H1, Same H H1 → G H1) (f : V → V)
    (hs : ∀ (i : Nat) (x : V) (H1 : Hp) (k : VK), xs[i]? = some x → Same H H1 → (∀ H2, Same H1 H2 → k (f x) H2) → g x (wipe σ vs) H1 fun σ2 H2 => wipe σ2 vs = wipe σ vs ∧ te σ2 H2 k)
    (hd : ∀ D H1, Same H H1 → H D = none → H1 D = some (.lst (xs.map f)) → Q (.ref D) H1) : lcK g tYes te vs σ Q J H := by
  refine lcK_it w (fun D i acc H1 => Same H H1 ∧ acc = (xs.map f).take i) (fun D H0 n0 => ⟨n0.same, rfl⟩) (fun D i acc H1 nD hi e p => hG H1 p.1) ?_ ?_
  · rintro D i x acc H1 H2 nD hi hD hl ⟨sm, ea⟩ ⟨rfl, hx⟩
    refine hs i x H2 _ hx sm fun H3 s3 => addK_mk (s3 _ _ hD) hl (by omega) ⟨same_upd nD (same_trans sm s3), ?_⟩
    rw [ea, List.take_add_one, List.getElem?_map, hx]
    rfl
  · rintro D acc H1 nD hD hl ⟨sm, ea⟩
    rw [List.take_of_length_le (by simp)] at ea
    rw [ea] at hD
    exact hd D H1 sm nD hD
theorem lcK_mapT (hx : H a = some (.tup xs)) (hn : xs.length ≤ 16777215) (f : V → V)
    (hs : ∀ (i : Nat) (x : V) (H1 : Hp) (k : VK), xs[i]? = some x → Same H H1 → (∀ H2, Same H1 H2 → k (f x) H2) → g x (wipe σ vs) H1 fun σ2 H2 => wipe σ2 vs = wipe σ vs ∧ te σ2 H2 k)
    (hd : ∀ D H1, Same H H1 → H D = none → H1 D = some (.lst (xs.map f)) → Q (.ref D) H1) : lcK g tYes te vs σ Q (Itt K a) H :=
  lcK_map walk_tup hn (fun H1 s => SqT.of (s _ _ hx)) f hs hd
theorem lcK_mapL (hx : H a = some (.lst xs)) (hn : xs.length ≤ 16777215) (f : V → V)
    (hs : ∀ (i : Nat) (x : V) (H1 : Hp) (k : VK), xs[i]? = some x → Same H H1 → (∀ H2, Same H1 H2 → k (f x) H2) → g x (wipe σ vs) H1 fun σ2 H2 => wipe σ2 vs = wipe σ vs ∧ te σ2 H2 k)
    (hd : ∀ D H1, Same H H1 → H D = none → H1 D = some (.lst (xs.map f)) → Q (.ref D) H1) : lcK g tYes te vs σ Q (Itl K a) H :=
  lcK_map walk_list hn (fun H1 s => SqL.of (s _ _ hx)) f hs hd
end
/-! values whose result is a new object -/
def rCatN : R2 := fun x y H Q => ∃ l b, x = .ref l ∧ y = .ref b ∧ ∃ xs, H l = some (.lst xs) ∧ ∃ zs, H b = some (.lst zs) ∧ xs.length + zs.length ≤ sizeLine ∧ ∀ p H2, IsNew H p (.lst (xs ++ zs)) H2 → Q (.ref p) H2
def rTupOfN : List V → Hp → VK → Prop := fun xs H Q => ∃ p, xs = [.ref p] ∧ ∃ ys, H p = some (.lst ys) ∧ ∀ l H2, IsNew H l (.tup ys) H2 → Q (.ref l) H2
def rLstOfN : List V → Hp → VK → Prop := fun xs H Q => ∃ p, xs = [.ref p] ∧ ∃ ys, H p = some (.lst ys) ∧ ∀ l H2, IsNew H l (.lst ys) H2 → Q (.ref l) H2
def rSlLN : V → Option Int → Option Int → Hp → VK → Prop := fun x lo hi H Q => ∃ a, x = .ref a ∧ ∃ xs, H a = some (.lst xs) ∧ ∀ p H2, IsNew H p (.lst (cutV xs lo hi)) H2 → Q (.ref p) H2
/-- a tuple's part: a new tuple, or itself -/
def rSlTN : V → Option Int → Option Int → Hp → VK → Prop := fun x lo hi H Q => ∃ a, x = .ref a ∧ ∃ xs, H a = some (.tup xs) ∧ ∀ p H2, Same H H2 → H2 p = some (.tup (cutV xs lo hi)) → Q (.ref p) H2
section
variable {X : Cx}
theorem OpR.mono {f : Value → Value → Sem Value} {r r' : R2} (h : OpR X f r) (k : ∀ x y H Q, r' x y H Q → r x y H Q) : OpR X f r' := fun pins s σ H x y a b Q I r1 r2 q => h pins s σ H x y a b Q I r1 r2 (k _ _ _ _ q)
theorem SlR.mono {r r' : V → Option Int → Option Int → Hp → VK → Prop} (h : SlR X r) (k : ∀ x lo hi H Q, r' x lo hi H Q → r x lo hi H Q) : SlR X r' := fun pins s σ H x v vl vu lo hi sl Q I rx hs pl pu q => h pins s σ H x v vl vu lo hi sl Q I rx hs pl pu (k _ _ _ _ _ q)
theorem op_cat_n : OpR X (binaryOp .Add) rCatN := OpR.mono op_cat fun x y H Q ⟨l, b, e1, e2, xs, h1, zs, h2, hz, q⟩ => ⟨l, b, xs, zs, e1, e2, h1, h2, hz, fun p n => q p _ ⟨n, rfl⟩⟩
theorem call_tuple_n : CallR X (.type "tuple") rTupOfN := CallR.mono call_tuple_of fun x H Q ⟨p, e, ys, h, q⟩ => ⟨p, ys, e, .inl ⟨SqL.of h, fun l n => q l _ ⟨n, rfl⟩⟩⟩
theorem call_list_n : CallR X (.type "list") rLstOfN := CallR.mono call_list_of fun x H Q ⟨p, e, ys, h, q⟩ => ⟨p, ys, e, .inl (SqL.of h), fun l n => q l _ ⟨n, rfl⟩⟩
theorem sl_list_n : SlR X rSlLN := SlR.mono sl_list fun x lo hi H Q ⟨a, e, xs, h, q⟩ => ⟨a, xs, e, SqL.of h, fun p n => q p _ ⟨n, rfl⟩⟩
theorem cut_whole {xs : List V} {lo hi : Option Int} (h : HT.sIx xs.length 0 lo = 0 ∧ HT.sIx xs.length xs.length hi = xs.length) : cutV xs lo hi = xs := by
  unfold cutV
  rw [h.1, h.2]
  simp
theorem sl_tup_n : SlR X rSlTN := SlR.mono sl_tupA fun x lo hi H Q ⟨a, e, xs, h, q⟩ => ⟨a, xs, e, SqT.of h, fun w => q a H same_refl (by rw [cut_whole w]; exact h), fun _ p n => q p _ (IsNew.same ⟨n, rfl⟩) upd_same⟩
end
/-! exceptions leave by the def's own way -/
section
variable {P : Program} {w : World} {K : PySem.W.Frag} {mg : Str → Option Value} {base : Heap} {N : List Str} {qual : Str} {scope : Scope} {f : Addr} {cd : Value} {A : Around} {outer : List Env} {s : Shared} {H : Hp} {E : XK}
theorem cxK {CX : CXT} : (cxOf CX P w K mg base N qual scope f cd A outer s H E).K = K := rfl
theorem passD : Passes (L2.CX P w) (cxOf (L2.CX P w) P w K mg base N qual scope f cd A outer s H E) E := passes_call (takes_of rfl rfl rfl rfl) (fun _ _ _ _ h => h)
theorem passO : PassesOwn (model P w) (cxOf (L2.CX P w) P w K mg base N qual scope f cd A outer s H E).A (cxOf (L2.CX P w) P w K mg base N qual scope f cd A outer s H E).env (cxOf (L2.CX P w) P w K mg base N qual scope f cd A outer s H E).xe := passes_of rfl
end
end FR

/-! Data: ints, texts, flat lists and tuples of them. -/
namespace FR
open PySem PySem.Spec PyProof.Rows L2 FL TL
section
variable {K : PySem.W.Frag} {H : Hp}
theorem dp_ints : ∀ ns : List Int, DpAll K H (ns.map V.int) (ns.map PyData.int)
  | [] => .nil
  | n :: r => .cons (.int n) (dp_ints r)
theorem dp_strs : ∀ ns : List Str, DpAll K H (ns.map V.str) (ns.map PyData.str)
  | [] => .nil
  | n :: r => .cons (.str n) (dp_strs r)
theorem dp_bls : ∀ ns : List Bool, DpAll K H (ns.map V.bl) (ns.map PyData.bool)
  | [] => .nil
  | n :: r => .cons (.bl n) (dp_bls r)
theorem lay_ints : ∀ ns : List Int, PyData.canLayAll0 (ns.map PyData.int) = true
  | [] => by simp [PyData.canLayAll0]
  | n :: r => by simp [PyData.canLayAll0, PyData.canLay0, lay_ints r]
theorem lay_bls : ∀ ns : List Bool, PyData.canLayAll0 (ns.map PyData.bool) = true
  | [] => by simp [PyData.canLayAll0]
  | n :: r => by simp [PyData.canLayAll0, PyData.canLay0, lay_bls r]
theorem lay_strs : ∀ ns : List Str, (∀ x ∈ ns, PyData.strOk x = true) → PyData.canLayAll0 (ns.map PyData.str) = true
  | [], _ => by simp [PyData.canLayAll0]
  | n :: r, h => by simp [PyData.canLayAll0, PyData.canLay0, lay_strs r (fun x hx => h x (List.mem_cons_of_mem _ hx)), h n List.mem_cons_self]
theorem depth_flat : ∀ ds : List PyData, (∀ d ∈ ds, d.depth = 0) → PyData.depthAll ds = 0
  | [], _ => by simp [PyData.depthAll]
  | d :: r, h => by simp [PyData.depthAll, depth_flat r (fun x hx => h x (List.mem_cons_of_mem _ hx)), h d List.mem_cons_self]
theorem shaped_list {ds : List PyData} (h : PyData.canLayAll0 ds = true) (k : PyData.depthAll ds ≤ 63) : SeqAt.shaped (.list ds) = true := by
  unfold SeqAt.shaped
  simp [PyData.canLay0, h, PyData.depth]
  omega
theorem shaped_tuple {ds : List PyData} (h : PyData.canLayAll0 ds = true) (k : PyData.depthAll ds ≤ 63) : SeqAt.shaped (.tuple ds) = true := by
  unfold SeqAt.shaped
  simp [PyData.canLay0, h, PyData.depth]
  omega
theorem depth_ints (ns : List Int) : PyData.depthAll (ns.map PyData.int) = 0 := depth_flat _ fun d hd => by
  obtain ⟨n, _, rfl⟩ := List.mem_map.mp hd
  simp [PyData.depth]
theorem depth_strs (ns : List Str) : PyData.depthAll (ns.map PyData.str) = 0 := depth_flat _ fun d hd => by
  obtain ⟨n, _, rfl⟩ := List.mem_map.mp hd
  simp [PyData.depth]
theorem depth_bls (ns : List Bool) : PyData.depthAll (ns.map PyData.bool) = 0 := depth_flat _ fun d hd => by
  obtain ⟨n, _, rfl⟩ := List.mem_map.mp hd
  simp [PyData.depth]
theorem shaped_ints (ns : List Int) : SeqAt.shaped (.list (ns.map PyData.int)) = true := shaped_list (lay_ints ns) (by rw [depth_ints]; decide)
theorem shaped_bls (ns : List Bool) : SeqAt.shaped (.list (ns.map PyData.bool)) = true := shaped_list (lay_bls ns) (by rw [depth_bls]; decide)
theorem shaped_strs {ns : List Str} (h : ∀ x ∈ ns, PyData.strOk x = true) : SeqAt.shaped (.list (ns.map PyData.str)) = true := shaped_list (lay_strs ns h) (by rw [depth_strs]; decide)
theorem shapedT_strs {ns : List Str} (h : ∀ x ∈ ns, PyData.strOk x = true) : SeqAt.shaped (.tuple (ns.map PyData.str)) = true := shaped_tuple (lay_strs ns h) (by rw [depth_strs]; decide)
theorem eqvAll_strs : ∀ xs ys : List Str, PyData.eqvAll (xs.map PyData.str) (ys.map PyData.str) = decide (xs = ys)
  | [], [] => by simp [PyData.eqvAll]
  | [], _ :: _ => by simp [PyData.eqvAll]
  | _ :: _, [] => by simp [PyData.eqvAll]
  | x :: xs, y :: ys => by
    simp only [List.map_cons, PyData.eqvAll, PyData.eqv, eqvAll_strs xs ys, List.cons.injEq]
    by_cases h : x = y <;> by_cases k : xs = ys <;> simp [h, k]
theorem eqvAll_ints : ∀ xs ys : List Int, PyData.eqvAll (xs.map PyData.int) (ys.map PyData.int) = decide (xs = ys)
  | [], [] => by simp [PyData.eqvAll]
  | [], _ :: _ => by simp [PyData.eqvAll]
  | _ :: _, [] => by simp [PyData.eqvAll]
  | x :: xs, y :: ys => by
    simp only [List.map_cons, PyData.eqvAll, PyData.eqv, eqvAll_ints xs ys, List.cons.injEq]
    by_cases h : x = y <;> by_cases k : xs = ys <;> simp [h, k]
theorem eqv_strs (xs ys : List Str) : PyData.eqv (.list (xs.map PyData.str)) (.list (ys.map PyData.str)) = decide (xs = ys) := by
  rw [← eqvAll_strs]
  simp [PyData.eqv]
theorem eqvT_strs (xs ys : List Str) : PyData.eqv (.tuple (xs.map PyData.str)) (.tuple (ys.map PyData.str)) = decide (xs = ys) := by
  rw [← eqvAll_strs]
  simp [PyData.eqv]
theorem eqv_ints (xs ys : List Int) : PyData.eqv (.list (xs.map PyData.int)) (.list (ys.map PyData.int)) = decide (xs = ys) := by
  rw [← eqvAll_ints]
  simp [PyData.eqv]
/-- lists and tuples of texts compared: tracked -/
theorem eqD_strL {a b : Addr} {xs ys : List Str} (ha : H a = some (.lst (xs.map V.str))) (hb : H b = some (.lst (ys.map V.str))) (hx : ∀ x ∈ xs, PyData.strOk x = true) (hy : ∀ x ∈ ys, PyData.strOk x = true) {Q : VK} (q : Q (.bl (decide (xs = ys))) H) : rEqD K (.ref a) (.ref b) H Q :=
  ⟨_, _, .lst (SqL.of ha) (dp_strs _), .lst (SqL.of hb) (dp_strs _), shaped_strs hx, shaped_strs hy, by rw [eqv_strs]; exact q⟩
theorem neD_strL {a b : Addr} {xs ys : List Str} (ha : H a = some (.lst (xs.map V.str))) (hb : H b = some (.lst (ys.map V.str))) (hx : ∀ x ∈ xs, PyData.strOk x = true) (hy : ∀ x ∈ ys, PyData.strOk x = true) {Q : VK} (q : Q (.bl (!decide (xs = ys))) H) : rNeD K (.ref a) (.ref b) H Q :=
  ⟨_, _, .lst (SqL.of ha) (dp_strs _), .lst (SqL.of hb) (dp_strs _), shaped_strs hx, shaped_strs hy, by rw [eqv_strs]; exact q⟩
theorem eqD_strT {a b : Addr} {xs ys : List Str} (ha : H a = some (.tup (xs.map V.str))) (hb : H b = some (.tup (ys.map V.str))) (hx : ∀ x ∈ xs, PyData.strOk x = true) (hy : ∀ x ∈ ys, PyData.strOk x = true) {Q : VK} (q : Q (.bl (decide (xs = ys))) H) : rEqD K (.ref a) (.ref b) H Q :=
  ⟨_, _, .tup (SqT.of ha) (dp_strs _), .tup (SqT.of hb) (dp_strs _), shapedT_strs hx, shapedT_strs hy, by rw [eqvT_strs]; exact q⟩
theorem neD_strT {a b : Addr} {xs ys : List Str} (ha : H a = some (.tup (xs.map V.str))) (hb : H b = some (.tup (ys.map V.str))) (hx : ∀ x ∈ xs, PyData.strOk x = true) (hy : ∀ x ∈ ys, PyData.strOk x = true) {Q : VK} (q : Q (.bl (!decide (xs = ys))) H) : rNeD K (.ref a) (.ref b) H Q :=
  ⟨_, _, .tup (SqT.of ha) (dp_strs _), .tup (SqT.of hb) (dp_strs _), shapedT_strs hx, shapedT_strs hy, by rw [eqvT_strs]; exact q⟩
theorem isi_ty {x : V} {a b : String} {r : Bool} {Q : VK} (t : TyOf K H x (.type a)) (h : kitB a b = some r) (q : Q (.bl r) H) : rIsi K [x, .ty b] H Q := ⟨x, .ty b, .type a, .type b, r, rfl, .ty b, .base t, kit_ty h, q⟩
theorem isi_own {a : Addr} {C B : Addr} {r : Bool} {Q : VK} (t : TyOf K H (.ref a) (.ref C)) (h : PySem.W.kitOne K (.ref C) (.ref B) = some r) (q : Q (.bl r) H) : rIsi K [.ref a, .ref B] H Q := ⟨.ref a, .ref B, .ref C, .ref B, r, rfl, .own B, .base t, h, q⟩
end
theorem ok_app {a b : Str} (h : PyData.strOk a = true) (k : PyData.strOk b = true) : PyData.strOk (a ++ b) = true := by
  have e : (a ++ b).cps = a.cps ++ b.cps := rfl
  unfold PyData.strOk at *
  rw [e, Array.all_append, h, k]
  rfl
theorem ok_list {a : Str} : PyData.strOk a = a.cps.toList.all (fun c => decide (c < 0x110000)) := by
  unfold PyData.strOk
  simp
theorem ok_cut {z : Str} (h : PyData.strOk z = true) (lo hi : Option Int) : PyData.strOk (cutS z lo hi) = true := by
  rw [ok_list] at *
  rw [List.all_eq_true] at *
  intro c hc
  refine h c ?_
  unfold cutS at hc
  exact List.mem_of_mem_drop (List.mem_of_mem_take (by simpa using hc))
theorem ok_tl {a : Str} : PyData.strOk a = (tl a).all (fun c => decide (c < 0x110000)) := ok_list
theorem ok_joinL {S : List Nat} (hS : S.all (fun c => decide (c < 0x110000)) = true) : ∀ ps : List (List Nat), (∀ p ∈ ps, p.all (fun c => decide (c < 0x110000)) = true) → (joinL S ps).all (fun c => decide (c < 0x110000)) = true
  | [], _ => rfl
  | [p], h => h p List.mem_cons_self
  | p :: q :: r, h => by
    have ih := ok_joinL hS (q :: r) fun x hx => h x (List.mem_cons_of_mem _ hx)
    have e : joinL S (p :: q :: r) = p ++ (S ++ joinL S (q :: r)) := rfl
    rw [e, List.all_append, List.all_append, ih, hS, h p List.mem_cons_self]
    rfl
theorem ok_join {y : Str} {ps : List Str} (hy : PyData.strOk y = true) (h : ∀ p ∈ ps, PyData.strOk p = true) : PyData.strOk (Txt.join y ps) = true := by
  rw [join_eq, ok_tl, tl_join]
  refine ok_joinL (by rw [← ok_tl]; exact hy) _ fun p hp => ?_
  obtain ⟨x, hx, rfl⟩ := List.mem_map.mp hp
  rw [← ok_tl]
  exact h x hx
theorem cut_front {xs : List V} : cutV xs none (some (-1)) = xs.take (xs.length - 1) := by
  unfold cutV HT.sIx
  simp only [List.drop_zero, Nat.sub_zero]
  congr 1
  simp
  omega
theorem cut_all {xs : List V} : cutV xs none none = xs := by
  unfold cutV HT.sIx
  simp
theorem atI_last {α : Type} {xs : List α} {v : α} (h : xs[xs.length - 1]? = some v) : atI xs (-1) = some v := by
  have hl : xs.length - 1 < xs.length := idx_lt h
  unfold atI ixN
  rw [if_neg (by decide), if_pos (by omega)]
  have e : ((-1 : Int) + (xs.length : Int)).toNat = xs.length - 1 := by omega
  rw [e]
  exact h
theorem len_app {a b : Str} : (a ++ b).length = a.length + b.length := by
  show (a.cps ++ b.cps).size = _
  rw [Array.size_append] <;> rfl
theorem len_cut (z : Str) (lo hi : Option Int) : (cutS z lo hi).length ≤ z.length := by
  unfold cutS
  show (List.toArray _).size ≤ z.cps.size
  simp
  omega

/-! ### what repr asks -/
structure Rp (w k : Nat) (d : PyData) : Prop where
  sh : d.showable = true
  nd : d.hasDict = false
  ls : d.leavesShort 13 = true
  wt : d.weight ≤ w
  dp : d.depth ≤ k
structure RpA (w k : Nat) (ds : List PyData) : Prop where
  sh : PyData.showableAll ds = true
  nd : PyData.hasDictAll ds = false
  ls : PyData.leavesShortAll 13 ds = true
  wt : PyData.weightAll ds ≤ w
  dp : PyData.depthAll ds ≤ k
theorem RpA.nil : RpA 0 0 [] := ⟨by simp [PyData.showableAll], by simp [PyData.hasDictAll], by simp [PyData.leavesShortAll], by simp [PyData.weightAll], by simp [PyData.depthAll]⟩
theorem RpA.cons {w k w' k' : Nat} {d : PyData} {ds : List PyData} (h : Rp w k d) (g : RpA w' k' ds) : RpA (w + 1 + w') (max k k') (d :: ds) := by
  refine ⟨by simp [PyData.showableAll, h.sh, g.sh], by simp [PyData.hasDictAll, h.nd, g.nd], by simp [PyData.leavesShortAll, h.ls, g.ls], ?_, ?_⟩
  · have := h.wt; have := g.wt; simp [PyData.weightAll]; omega
  · have := h.dp; have := g.dp; simp [PyData.depthAll]; omega
theorem Rp.list {w k : Nat} {ds : List PyData} (h : RpA w k ds) : Rp w (k + 1) (.list ds) := ⟨by simp [PyData.showable, h.sh], by simp [PyData.hasDict, h.nd], by simp [PyData.leavesShort, h.ls], by simp [PyData.weight, h.wt], by simp [PyData.depth, h.dp]⟩
theorem Rp.tuple {w k : Nat} {ds : List PyData} (h : RpA w k ds) : Rp w (k + 1) (.tuple ds) := ⟨by simp [PyData.showable, h.sh], by simp [PyData.hasDict, h.nd], by simp [PyData.leavesShort, h.ls], by simp [PyData.weight, h.wt], by simp [PyData.depth, h.dp]⟩
theorem Rp.none : Rp 0 0 .none := ⟨by simp [PyData.showable], by simp [PyData.hasDict], by simp [PyData.leavesShort], by simp [PyData.weight], by simp [PyData.depth]⟩
theorem Rp.bool (b : Bool) : Rp 0 0 (.bool b) := ⟨by simp [PyData.showable], by simp [PyData.hasDict], by simp [PyData.leavesShort], by simp [PyData.weight], by simp [PyData.depth]⟩
theorem Rp.str {z : Str} {w : Nat} (h : PyData.strOk z = true) (l : z.length ≤ w) : Rp w 0 (.str z) := by
  refine ⟨by simp [PyData.showable], by simp [PyData.hasDict], ?_, by simp only [PyData.weight]; exact l, by simp [PyData.depth]⟩
  rw [ok_list, List.all_eq_true] at h
  simp only [PyData.leavesShort]
  rw [List.all_eq_true]
  intro c hc
  have := of_decide_eq_true (h c hc)
  exact decide_eq_true (by omega)
theorem RpA.strs {m : Nat} : ∀ {ns : List Str}, (∀ x ∈ ns, PyData.strOk x = true ∧ x.length ≤ m) → RpA (ns.length * (m + 1)) 0 (ns.map PyData.str)
  | [], _ => by simpa using RpA.nil
  | n :: r, h => by
    have h1 := RpA.strs (ns := r) fun x hx => h x (List.mem_cons_of_mem _ hx)
    have h2 := Rp.str (h n List.mem_cons_self).1 (h n List.mem_cons_self).2
    have h3 := RpA.cons h2 h1
    simp only [List.length_cons, List.map_cons]
    refine ⟨h3.sh, h3.nd, h3.ls, ?_, h3.dp⟩
    have := h3.wt
    rw [Nat.add_mul]
    omega
theorem repr_of {K : PySem.W.Frag} {H : Hp} {x : V} {d : PyData} {w k : Nat} {Q : VK} (h : Dp K H x d) (r : Rp w k d) (hw : w ≤ 1048576) (hk : k ≤ 60) (hi : ∀ i, x ≠ .int i) (q : Q (.str d.shown) H) : rRepr K [x] H Q :=
  ⟨x, d, rfl, h, r.sh, r.nd, r.ls, by have := r.wt; omega, by have := r.dp; omega, hi, q⟩
def sgns : List Nat := [97, 98, 99, 100, 101, 102, 103, 104, 105, 106, 107, 108, 109, 110, 111, 112, 113, 114, 115, 116, 117, 118, 119, 120, 121, 122, 48, 49, 50, 51, 52, 53, 54, 55, 56, 57, 95, 45, 46]
theorem sign_eq : (PySem.Str.ofString "abcdefghijklmnopqrstuvwxyz0123456789_-.").cps.toList = sgns := by decide +kernel
def pt1 : Str := ⟨#[46]⟩
def pt2 : Str := ⟨#[46, 46]⟩
theorem pt1_eq : PySem.Str.ofString "." = pt1 := by decide +kernel
theorem pt2_eq : PySem.Str.ofString ".." = pt2 := by decide +kernel
/-- where c stands last in l, or -1 -/
def IsLast (c : Nat) (l : List Nat) (s : Int) : Prop := (s = -1 ∧ ∀ k : Nat, l[k]? ≠ some c) ∨ ∃ i : Nat, s = i ∧ l[i]? = some c ∧ ∀ k : Nat, i < k → l[k]? ≠ some c
theorem IsLast.uniq {c : Nat} {l : List Nat} {s t : Int} (h : IsLast c l s) (k : IsLast c l t) : s = t := by
  rcases h with ⟨h1, h2⟩ | ⟨i, h1, h2, h3⟩ <;> rcases k with ⟨k1, k2⟩ | ⟨j, k1, k2, k3⟩
  · omega
  · exact absurd k2 (h2 j)
  · exact absurd h2 (k2 i)
  · rcases Nat.lt_trichotomy i j with e | e | e
    · exact absurd k2 (h3 j e)
    · omega
    · exact absurd h2 (k3 i e)
theorem IsLast.nil {c : Nat} : IsLast c [] (-1) := .inl ⟨rfl, fun k h => by simp at h⟩
theorem IsLast.step {c x : Nat} {l : List Nat} {s : Int} (h : IsLast c l s) : IsLast c (l ++ [x]) (if x = c then (l.length : Int) else s) := by
  by_cases e : x = c
  · rw [if_pos e]
    refine .inr ⟨l.length, rfl, by simp [e], fun k hk hh => ?_⟩
    rw [List.getElem?_eq_none (by simp; omega)] at hh
    cases hh
  · rw [if_neg e]
    have no : ∀ k : Nat, (l ++ [x])[k]? = some c → l[k]? = some c := fun k hk => by
      by_cases hl : k < l.length
      · rw [List.getElem?_append_left hl] at hk
        exact hk
      · rw [List.getElem?_append_right (by omega)] at hk
        by_cases h0 : k - l.length = 0
        · rw [h0] at hk
          simp at hk
          exact absurd hk e
        · rw [List.getElem?_eq_none (by simp; omega)] at hk
          cases hk
    rcases h with ⟨h1, h2⟩ | ⟨i, h1, h2, h3⟩
    · exact .inl ⟨h1, fun k hk => h2 k (no k hk)⟩
    · exact .inr ⟨i, h1, by rw [List.getElem?_append_left (idx_lt h2)]; exact h2, fun k hk hh => h3 k hk (no k hh)⟩
theorem rfind_last (z : Str) (c : Nat) : IsLast c z.cps.toList (Txt.rfind z ⟨#[c]⟩) := by
  unfold Txt.rfind
  rcases PySem.StrLaws.last_spec z ⟨#[c]⟩ with ⟨e, h⟩ | ⟨i, e, h, k⟩
  · rw [e]
    exact .inl ⟨rfl, fun k hk => h k ((PySem.StrLaws.subAt_one z c k).mpr hk)⟩
  · rw [e]
    exact .inr ⟨i, rfl, (PySem.StrLaws.subAt_one z c i).mp h, fun m hm hk => k m hm ((PySem.StrLaws.subAt_one z c m).mpr hk)⟩
theorem walk_Ies {x : Str} : Walk (Ies x) x.cps.size (fun _ => True) (fun i H v H' => ∃ T c, v = V.ref T ∧ H T = none ∧ H' = upd H T (.tup [.int (i : Nat), .str ⟨#[c]⟩]) ∧ x.cps[i]? = some c) :=
  ⟨fun i H h _ => h, fun H _ => Nat.le_refl _, fun i H x H' _ _ y => y⟩
end FR

/-! The end: the law's promise (Fn, guards told) at the heap behind the top. -/
namespace FE
open PySem PySem.Spec PyProof.Rows L2 FL FH
theorem room_caller {gd : Bool} {k : Nat} (h : k ≤ 40) : Rm gd k callerA := by
  have r : Room 40 callerA := ⟨rfl, by decide, by decide⟩
  exact ⟨r.mono h, fun _ => rfl⟩
/-- the heap that tells of the script alone -/
def scH (K : PySem.W.Frag) (a : Addr) (u : HO) : Hp := fun b => if b = a ∧ K.lookup a = none then some u else none
theorem scH_some {K : PySem.W.Frag} {a b : Addr} {u v : HO} (h : scH K a u b = some v) : b = a ∧ K.lookup a = none ∧ v = u := by
  unfold scH at h
  split at h
  · rename_i c
    exact ⟨c.1, c.2, (Option.some.inj h).symm⟩
  · cases h
theorem call_at {P : Program} {w : World} {K : PySem.W.Frag} {mg mb : Str → Option Value} {k : Nat} {fa a : Addr} {sp : Sp} {s : Shared} {vs : List Value} {ns : List Int}
    (kin : K.In s.heap) (hns : s.heap.Ns mainGlobals mg) (hbn : s.heap.Ns builtinsNs mb) (hbb : ∀ x : Str, x ≠ "__name__" → mb x = bootBuiltins x) (hlim : s.heap.NoLimit) (hgen : s.gens = #[])
    (hobj : s.heap.get? a = some { cls := .type "list", data := .seq vs.toArray }) (hint : IntsAre vs ns) (hlen : ns.length ≤ sizeLine) (hk : k ≤ 40)
    (F : ∀ base : Heap, K.In base → base.Ns mainGlobals mg → Fn true P w K mg base k fa [] sp)
    (hsp : ∀ H : Hp, SqL K H a (ns.map V.int) → sp [.ref a] H (fun v _ => v = .bl true) fun _ _ _ => False) :
    codeAny (model P w) callerA (.call (.ref fa) ⟨[.ref a], []⟩) (fun r s' => r = .ok (.ret (.bool true)) ∧ OldK s.heap s'.heap ∧ s'.os = s.os ∧ AllBare s'.gens) s := by
  have rel := vals_ints hint
  have ln := hint.length
  obtain ⟨so, eso⟩ : ∃ so : Obj, so = { cls := .type "list", data := .seq vs.toArray } := ⟨_, rfl⟩
  rw [← eso] at hobj
  obtain ⟨H, eH⟩ : ∃ H : Hp, H = scH K a (.frz so (.lst (ns.map V.int))) := ⟨_, rfl⟩
  have only : ∀ {b : Addr} {v : HO}, H b = some v → b = a ∧ K.lookup a = none ∧ v = .frz so (.lst (ns.map V.int)) := fun {b v} h => scH_some (by rw [← eH]; exact h)
  have ok : HOk P w H s.heap := by
    intro b v h
    obtain ⟨e1, _, e3⟩ := only h
    subst e1 e3 eso
    exact ⟨hobj, by rw [List.length_map]; exact hlen, vs, _, rel, hobj⟩
  have sq : SqL K H a (ns.map V.int) := by
    cases hka : K.lookup a with
    | none => exact .inl (.inr ⟨so, by rw [eH]; exact if_pos ⟨rfl, hka⟩⟩)
    | some o =>
      have z := kin a o hka
      rw [hobj] at z
      obtain rfl : so = o := Option.some.inj z
      subst eso
      exact .inr ⟨_, vs.toArray, _, hka, rfl, rfl, rfl, by rw [List.size_toArray, ln]; exact hlen, by simpa using rel⟩
  have free : ∀ {b : Addr} {o : Obj}, s.heap.get? b = some o → (b = a → K.lookup a ≠ none ∨ o ≠ so) → H b = none := fun {b o} h n => by
    cases e : H b with
    | none => rfl
    | some v =>
      obtain ⟨e1, e2, _⟩ := only e
      rcases n e1 with z | z
      · exact absurd e2 z
      · subst e1
        rw [hobj] at h
        exact absurd (Option.some.inj h).symm z
  have toBase : ∀ {b : Addr} {m : Str → Option Value}, s.heap.Ns b m → (hidT s.heap H).Ns b m := fun {b m} ⟨o, es, ep, h, d, r⟩ => ⟨o, es, ep, hidT_get h (free h fun _ => .inr fun z => by
    rw [z, eso] at d
    have d' : Data.seq vs.toArray _ = Data.dict es ep := d
    cases d'), d, r⟩
  have kbase : K.In (hidT s.heap H) := fun b o h => hidT_get (kin b o h) (free (kin b o h) fun e => .inl (by rw [← e, h]; simp))
  have mod : Mod K mg (hidT s.heap H) := ⟨kbase, toBase hns, ⟨mb, toBase hbn, hbb⟩, let ⟨mc, g1, g2⟩ := hlim; ⟨mc, toBase g1, g2⟩⟩
  have env : Env0 P w K mg (hidT s.heap H) callerA [] s H := by
    refine ⟨rfl, mod, fun b o h => of_hidT h, Nat.le_of_eq (hidT_size _ _), trivial, ?_, ok, .of_eq hgen⟩
    intro b hb
    cases (show b ∈ ([] : List Addr) from hb)
  have run := F _ kbase (toBase hns) callerA [] s H [.ref a] [] [.ref a] [] _ _ (room_caller hk) env (.cons rfl .nil) .nil rfl (hsp H sq)
  refine codeAny_mono run fun r s' h => ?_
  cases r with
  | error e =>
    obtain ⟨_, _, _, _, _, _, _, _, _, _, _, _, z⟩ := (show L2.CX P w [] H s (fun _ _ _ => False) e s' from h)
    exact z.elim
  | ok fl =>
    cases fl with
    | ret u =>
      obtain ⟨v, H', os, bare, un, ok', rv, q⟩ := h
      have qv : v = .bl true := q
      subst qv
      obtain rfl : u = Value.bool true := rv
      refine ⟨rfl, OldK.of_keep fun b o hb => ?_, os, bare⟩
      cases e : H b with
      | none =>
        refine un.keep b o hb e (fun z => ?_) (by simp)
        cases (show b ∈ ([] : List Addr) from z)
      | some v =>
        obtain ⟨_, _, e3⟩ := only e
        subst e3
        obtain ⟨g1, _⟩ := ok b _ e
        obtain ⟨g2, _⟩ := ok' b _ (un.frzs b so _ e)
        rw [hb] at g1
        rw [g2, Option.some.inj g1]
    | next => exact False.elim h
    | brk => exact False.elim h
    | cont => exact False.elim h
/-- the goal that the head leaves, from the law's promise -/
theorem walk_fn {l : PySem.W.OpenLaw} {n k : Nat} {q : Program} {loose : List Str} {XP : (Str → Option Value) → Heap → Prop} {YP : World → Heap → Prop} {d : DefRec}
    (hn : l.most = some n) (hn2 : n ≤ sizeLine) (hdf : d.params.defaults = []) (hk : k ≤ 40)
    (F : ∀ (w : World) (mg : Str → Option Value) (fa : Addr) (h : Heap), YP w h → h.Ns mainGlobals mg → mg d.name = some (.ref fa) →
      ∃ (K : PySem.W.Frag) (sp : Sp), K.In h ∧ (∀ (H : Hp) (a : Addr) (ns : List Int), ns.length ≤ n → SqL K H a (ns.map V.int) → sp [.ref a] H (fun v _ => v = .bl true) fun _ _ _ => False) ∧
        ∀ base : Heap, K.In base → base.Ns mainGlobals mg → Fn true l.prog w K mg base k fa [] sp) :
    PySem.W.WalkO q loose XP YP l.row.toRowW d [] (fun f vs => PySem.call f vs) := by
  refine Att.attach_call hn hdf fun w s0 s1 mg mb f o pm cd dc p us is G Y hf hdat hcode hm hp hint hlen hgen => ?_
  obtain ⟨K, sp, kin, h1, h2⟩ := F w mg f _ Y G.T.g hm
  exact call_at kin G.T.g G.T.b G.T.builtins G.T.nolimit hgen hp hint (Nat.le_trans hlen hn2) hk h2 fun H hS => h1 H p is hlen hS
end FE

/-! Own exceptions with an own __init__, over any of the four base classes. -/
namespace FX
open PySem PySem.Spec PyProof.Rows L2 FL FR
/-- a base of the language: its names, its facts -/
structure Fam where
  B : String
  newId : String
  initId : String
  bm : List Value
  F : ExcBaseFacts B newId initId bm
  S : StoreFacts B bm "object.__setattr__" "object"
  hh : PySem.W.handedIn (.builtin initId) = true
def famV : Fam := ⟨_, _, _, _, PySem.F.excBase_ValueError, PySem.F.store_ValueError, by decide +kernel⟩
def famL : Fam := ⟨_, _, _, _, PySem.F.excBase_LookupError, PySem.F.store_LookupError, by decide +kernel⟩
def famR : Fam := ⟨_, _, _, _, PySem.F.excBase_RuntimeError, PySem.F.store_RuntimeError, by decide +kernel⟩
def famA : Fam := ⟨_, _, _, _, PySem.F.excBase_ArithmeticError, PySem.F.store_ArithmeticError, by decide +kernel⟩
/-- what the written part says of such a class -/
structure OxC (fm : Fam) (K : PySem.W.Frag) (C : Addr) : Prop where
  made : PySem.W.excInitIn K C fm.bm fm.newId = true
  ov : PySem.W.excOver K C fm.bm = true
  sa : PySem.W.findIn K (.ref C) "__setattr__" = some (some (.builtin "object.__setattr__"))
  ex : PySem.W.subIn K (.ref C) (.type "BaseException") = some true
  ty : PySem.W.typeIn K (.ref C) = some (.type "type")
  kp : PySem.W.keepIn K (.ref C) = true
  hd : PySem.W.hasDictIn K C = true
/-- .. and its field f -/
structure OxF (fm : Fam) (K : PySem.W.Frag) (C fI : Addr) (f : Str) : Prop where
  c : OxC fm K C
  no : PySem.W.findIn K (.ref C) f = some none
  ini : PySem.W.findIn K (.ref C) "__init__" = some (some (.ref fI))
  fn : PySem.W.typeIn K (.ref fI) = some (.type "function")
section
variable {prog : Program} {w : World} {A : Around} {R : Result → Shared → Prop} {K : PySem.W.Frag} {fm : Fam}
open PySem.W in
/-- the store into an exception that has no dict yet -/
theorem first_store {s : Shared} {C x t1 : Addr} {name : Str} {tk : Tok} {v : Value} (T : OxC fm K C) (kin : K.In s.heap) (hno : findIn K (.ref C) name = some none) (hx : s.heap.get? x = some (HandSPX.excO C t1))
    (hq : ∀ h' tk' dx, (∀ b o, b ≠ x → s.heap.get? b = some o → h'.get? b = some o) → s.heap.objs.size ≤ dx → dx ≠ x → h'.get? x = some { HandSPX.excO C t1 with dict := some dx } → h'.Ns1 dx (fun y => if y = name then some v else none) → R (.ok (.ret .none)) { s with heap := h', toks := tk' }) :
    codeAny (model prog w) A (.call (.builtin "object.__setattr__") ⟨[.ref x, .str name tk, v], []⟩) R s := by
  refine osa_openX (od := none) (r := none) fm.S kin ⟨hx, rfl, rfl, trivial⟩ T.ov (by unfold takerIn; rw [hno] <;> rfl) fun b => ?_
  obtain ⟨cd, hc, hdict⟩ := any_some T.hd
  have small : x < s.heap.objs.size := Heap.lt_size hx
  refine wpAny_bind (wpAny_pure (wpAny_bind (instanceDict_exc hx (looks_clsIn kin hc) hdict ?_)))
  obtain ⟨hp, g, d, t, os⟩ := s
  refine HandSPX.store_in_new ?_ fun h2 tk2 hns hsb => ?_
  · exact ⟨dictOf [] 0, #[], 0, (Heap.get?_update_ne _ _ _ _ (Nat.ne_of_gt small)).trans (Heap.get?_push_at rfl rfl), rfl, fun e he => absurd he (by simp), fun _ => rfl⟩
  · refine hq h2 tk2 hp.objs.size (fun b o hb ho => ?_) (Nat.le_refl _) (Nat.ne_of_gt small) ?_ hns
    · exact (hsb.2 b (Nat.ne_of_lt (Heap.lt_size ho))).trans ((Heap.get?_update_ne _ _ _ _ hb).trans (Heap.get?_push_of_some _ ho))
    · exact (hsb.2 x (Nat.ne_of_lt small)).trans (Heap.get?_update_self _ (Heap.get?_push_of_some _ hx) rfl)
end
section
variable {X : Cx} {fm : Fam} {C CB fI : Addr} {f : Str}
theorem raises_ox (T : OxC fm X.K C) : Raises X (.ref C) := raises_own T.ex T.ty
/-- the base's __init__: nothing of it is told -/
theorem init_ox {pins : List (Addr × Obj)} {σ : L2.St} {H : Hp} {s : Shared} {a : Addr} {us : List Value} {Q : Value → Shared → Prop} {E : Value → Shared → Prop} {A : Around} (T : OxC fm X.K C) (I : Inv X pins σ H s) (e : H a = some (exo a C none)) (hl : us.length ≤ sizeLine)
    (h : ∀ s', Inv X pins σ H s' → Q .none s') : wpAny (model X.prog X.w) A (call (.builtin fm.initId) (.ref a :: us)) Q E s := by
  obtain ⟨nm, N', qn, bs, bm, hdct, sn, sub, ab, col, dd, k0, k1, k2, k3, k5, hC, hT⟩ := PySem.W.excInit_of I.kIn T.made
  obtain ⟨t1, ho⟩ := exo_at I.hok e
  obtain ⟨hp, g, d, t, os⟩ := s
  refine wpAny_call (HandSPX.init_base fm.F hT hC ho hl fun h2 t2 kept hx => ?_)
  have same : upd H a (exo a C none) = H := funext fun b => by
    by_cases hb : b = a
    · rw [hb, upd_same, e]
    · exact upd_ne hb
  have J := I.write (t' := t) (x := a) (e := a) (o := exo a C none) (by rw [e]; exact True.intro) (.inl rfl) kept ⟨_, hx⟩ (exo_ok hx)
  rw [same] at J
  exact h _ J
/-- B.__init__(self, ..), B an own class over the base -/
def tBase (fm : Fam) (K : PySem.W.Frag) (ta : TA) : TE := fun σ H Q => ta σ H fun vs H1 => ∃ a ws, vs = .ref a :: ws ∧ ∃ C, H1 a = some (exo a C none) ∧ OxC fm K C ∧ ws.length ≤ 1000 ∧ Q .non H1
theorem pe_base {pl : Sem Bool} {B : Str} {e : Expr} {es : List Expr} {ta : TA} {p1 p2 pos : Pos} (hg : Gl X B) (hm : X.mg B = some (.ref CB)) (rd : PySem.W.readsIn X.K CB (.type "type") = true)
    (gg : PySem.W.specialIn X.K (.ref CB) "__getattribute__" = some (some (.builtin "type.__getattribute__"))) (fi : PySem.W.findCls X.K (.ref CB) (.type "type") "__init__" = some (.val (.builtin fm.initId))) (ha : PA X (e :: es) ta)
    (hc : eval (.Call (.Attribute (.Name B p1) "__init__" p2) (e :: es) [] pos) X.env = (do
      let ov ← eval (.Name B p1) X.env
      standAt p2.atName
      let (f, first) ← holding [ov] (getMethod ov "__init__" pl)
      callWith pos f first (backTo pos (starEach (e :: es) X.env)) (backToKw pos (keywordEach [] X.env))) := by rfl)
    (hdb : (B == ("__debug__" : Str)) = false := by decide)
    (he : starEach (e :: es) X.env = (false, eval e X.env) :: starEach es X.env := by rfl) (hpl : (backTo pos (starEach es X.env)).any (·.1) = false := by rfl) :
    PE X (.Call (.Attribute (.Name B p1) "__init__" p2) (e :: es) [] pos) (tBase fm X.K ta) := by
  refine ⟨fun pins s σ H Q I h => ?_⟩
  refine PySem.W.methodCall_KW (ld_glob I hg hm ?_ hdb) hc
  refine PySem.W.method_cls I.kIn gg (PySem.W.cls_value I.kIn rd fi fm.hh ?_)
  show wpAny _ _ (callWith pos (Value.builtin fm.initId) [] (backTo pos (starEach (e :: es) X.env)) []) _ _ _
  refine PyProof.Rows.callWith_method1 (thn (ha.run pos pins _ σ H _ (I.tok _) h) fun us s1 ⟨vs, H1, I1, r1, a, ws, ev, C, ea, T, hl, q⟩ => ?_) he hpl
  subst ev
  cases r1 with
  | @cons _ u0 _ ur ra rw' =>
    obtain rfl : u0 = Value.ref a := ra
    have few : ur.length ≤ sizeLine := by
      rw [← Paired.length rw', sizeLine_eq]
      omega
    exact init_ox T I1 ea few fun s2 J => ⟨.non, H1, J, rfl, q⟩
/-- self.f = e, the first field -/
def sErr (fm : Fam) (K : PySem.W.Frag) (f : Str) (to te : TE) : TS := fun D σ H => te σ H fun y H1 => to σ H1 fun x H2 => ∃ a, x = .ref a ∧ ∃ C, H2 a = some (exo a C none) ∧ OxC fm K C ∧ PySem.W.findIn K (.ref C) f = some none ∧
  ∀ dx, H2 dx = none → dx ≠ a → D.nx σ (upd (upd H2 dx (exd dx [(f, y)])) a (exo a C (some dx)))
theorem ps_err {o e : Expr} {to te : TE} {p' pos : Pos} (ho : PE X o to) (he : PE X e te) (hs : swapsWith e (some (.Attribute o f p')) pos.line X.env = pure false := by rfl) : PS X (.Assign [.Attribute o f p'] e pos) (sErr fm X.K f to te) := by
  refine ⟨fun pins s σ H D I h => ?_⟩
  refine plainObj_wpAny_Assign_Attribute (thn (he.run pins s σ H _ I h) fun v s1 ⟨y, H1, I1, r1, q1⟩ => thn (ho.run pins s1 σ H1 _ I1 q1) fun u s2 ⟨x, H2, I2, r2, a, ex, C, ea, T, hno, q⟩ => ?_) hs
  subst ex
  obtain rfl : u = Value.ref a := r2
  obtain ⟨t1, hob⟩ := exo_at I2.hok ea
  refine PySem.W.set_plain I2.kIn (ox := HandSPX.excO C t1) (od := none) ⟨hob, rfl, rfl, trivial⟩ T.sa ?_
  have I3 := I2.tok (s2.toks + 1)
  refine first_store T I3.kIn hno hob fun h2 tk2 dx kept big ne hx hns => ?_
  have nd : H2 dx = none := I2.hok.fresh big
  have low : ∀ {b : Addr} {o : Obj}, s2.heap.get? b = some o → b ≠ dx := fun {b o} z => Nat.ne_of_lt (Nat.lt_of_lt_of_le (Heap.lt_size z) big)
  have na : ∀ {b : Addr}, H2 b = none → b ≠ a := fun {b} n z => by rw [z, ea] at n; cases n
  have U : Un X.fs [] H2 (upd (upd H2 dx (exd dx [(f, y)])) a (exo a C (some dx))) s2.heap h2 := {
    keep := fun b o z n _ _ => kept b o (na n) z
    slot := fun b o z n _ _ => ⟨o.slots, kept b o (na n) z⟩
    free := fun b o z n _ => by rw [upd_ne (na n), upd_ne (low z)]; exact n
    there := fun b o z _ => by
      by_cases hb : b = a
      · subst hb
        exact ⟨_, hx⟩
      · exact ⟨o, kept b o hb z⟩
    tups := fun b xs z => by rw [upd_ne (at_ne ea z exo_tup), upd_ne (ne_of_none z nd)]; exact z
    frzs := fun b o u z => by rw [upd_ne (at_ne ea z exo_frz), upd_ne (ne_of_none z nd)]; exact z
    tbls := fun b ps z => ⟨#[], by rw [upd_ne (at_ne ea z exo_tbl), upd_ne (ne_of_none z nd), z]; simp⟩ }
  have J := I2.un (t' := tk2) U fun b o z => by
    by_cases hb : b = a
    · subst hb
      rw [upd_same] at z
      cases z
      exact exo_ok hx
    · rw [upd_ne hb] at z
      by_cases hd : b = dx
      · subst hd
        rw [upd_same] at z
        cases z
        exact exd_ok hns (relO_put (fs := []) r1 fun g => True.intro)
      · rw [upd_ne hd] at z
        refine (I2.hok b o z).stay (fun c v hc y2 => kept c v ?_ y2) (fun c hc => ?_) (fun c xs hc => ?_)
        · rcases hc with hc | hc
          · rw [hc]
            exact hb
          · exact at_ne ea hc exo_own
        · rw [upd_ne (at_ne ea hc exo_own), upd_ne (ne_of_none hc nd)]
          exact hc
        · rw [upd_ne (at_ne ea hc exo_tup), upd_ne (ne_of_none hc nd)]
          exact hc
  exact ⟨σ, _, J, q dx nd ne⟩
end
/-- the promise of such an __init__: the field f is laid -/
def spErr (C : Addr) (f : Str) : Sp := fun vs H Q _ => ∃ (a : Addr) (v : V), vs = [.ref a, v] ∧ H a = some (exo a C none) ∧ ∀ d, H d = none → d ≠ a → Q .non (upd (upd H d (exd d [(f, v)])) a (exo a C (some d)))
section
variable {gd : Bool} {X : Cx} {fm : Fam} {C fI : Addr} {f x : Str} {k : Nat} {ks : List Str}
/-- the heap behind C(v): the object at a, its dict at d -/
def errH (H : Hp) (a C d : Addr) (f : Str) (v : V) : Hp := upd (upd (upd H a (exo a C none)) d (exd d [(f, v)])) a (exo a C (some d))
theorem call_ox {pins : List (Addr × Obj)} {σ : L2.St} {H : Hp} {s : Shared} {u : Value} {v : V} {Q : Value → Shared → Prop} (T : OxF fm X.K C fI f) (F1 : Fn gd X.prog X.w X.K X.mg X.base k fI [] (spErr C f)) (hr : Rm gd (k + 1) X.A) (I : Inv X pins σ H s) (r : RelV v u)
    (hx : ∀ (pins2 : List (Addr × Obj)) (σ2 : L2.St) (H2 : Hp) (s2 : Shared) (e : Value) (s' : Shared), Inv X pins2 σ2 H2 s2 → L2.CX X.prog X.w X.stack H2 s2 (fun _ _ _ => False) e s' → X.xe e s')
    (h : ∀ (a d : Addr) (hp2 h2 : Heap) (g2 : Array GenState) (d2 : Drawn) (t2 : Nat) (os2 : OsState), s.heap.objs.size ≤ a → H a = none → H d = none → d ≠ a → (∀ b o, s.heap.get? b = some o → hp2.get? b = some o) → Un (frs X.stack) [] (upd H a (exo a C none)) (errH H a C d f v) hp2 h2 →
      HOk X.prog X.w (errH H a C d f v) h2 → os2 = s.os → AllBare g2 → Q (.ref a) ⟨h2, g2, d2, t2, os2⟩) :
    wpAny (model X.prog X.w) X.A (call (.ref C) [u]) Q X.xe s := by
  obtain ⟨nm, N', qn, bs, bm, hdct, sn, sub, ab, col, dd, k0, k1, k2, k3, k5, hC, hT⟩ := PySem.W.excInit_of I.kIn T.c.made
  obtain ⟨hp, g, dr, tk, os⟩ := s
  obtain ⟨a, ea⟩ : ∃ a, a = hp.objs.size + 1 := ⟨_, rfl⟩
  obtain ⟨hp2, e2⟩ : ∃ hp2 : Heap, hp2 = (hp.push (PySem.W.kdv_tup [u])).push (HandSPX.excO C hp.objs.size) := ⟨_, rfl⟩
  have big : hp.objs.size ≤ a := by rw [ea]; exact Nat.le_succ _
  have na : H a = none := I.hok.fresh big
  have kept : ∀ b o, hp.get? b = some o → hp2.get? b = some o := fun b o z => by
    rw [e2]
    exact Heap.get?_push_of_some _ (Heap.get?_push_of_some _ z)
  have there : hp2.get? a = some (HandSPX.excO C hp.objs.size) := by
    rw [e2, ea]
    heap_get
  have J : Inv X pins σ (upd H a (exo a C none)) ⟨hp2, g, dr, tk, os⟩ := I.laid (t' := tk) (a := a) (o := exo a C none) (h' := hp2) kept big (exo_ok there)
  have few : [u].length ≤ sizeLine := fits (by simp)
  refine wpAny_call (HandSPX.call_own fm.F hT hC (PySem.W.looks_findIn I.kIn T.ini) (fun self => PySem.W.bind_fn I.kIn self T.fn) few ?_)
  rw [← e2, ← ea]
  refine codeAny_mono (F1 _ X.stack _ _ [.ref a, u] [] [.ref a, v] [] (fun y H2 => y = .non ∧ ∃ d, H d = none ∧ d ≠ a ∧ H2 = errH H a C d f v) (fun _ _ _ => False) (hr.make C [u] []) (J.env0.make C [u] []) (.cons rfl (.cons r .nil)) .nil rfl
    ⟨a, v, rfl, upd_same, fun d nd ne => ⟨rfl, d, by rw [upd_ne ne] at nd; exact nd, ne, rfl⟩⟩) fun res s' hq => ?_
  cases res with
  | error er => exact hx pins σ _ _ er s' J hq
  | ok fl =>
    cases fl with
    | ret z =>
      obtain ⟨y, H2, os2, bare, un, hok, rv, ey, d, nd, ne, eH⟩ := hq
      subst ey eH
      obtain ⟨h2, g2, d2, t2, os'⟩ := s'
      exact ⟨rv, h a d hp2 h2 g2 d2 t2 os' big na nd ne kept un hok os2 bare⟩
    | next => exact False.elim hq
    | brk => exact False.elim hq
    | cont => exact False.elim hq
/-- what a raise leaves: the dict alone -/
theorem errH_del {H : Hp} {a d : Addr} {v : V} (na : H a = none) (ne : d ≠ a) : upd (del (errH H a C d f v) a) d (.xd [(f, v)]) = upd H d (.xd [(f, v)]) := funext fun b => by
  by_cases hd : b = d
  · subst hd
    rw [upd_same, upd_same]
  · rw [upd_ne hd, upd_ne hd]
    by_cases hb : b = a
    · subst hb
      rw [del_same, na]
    · rw [del_ne hb]
      unfold errH
      rw [upd_ne hb, upd_ne hd, upd_ne hb]
/-- C(e) to be raised -/
def tErr (C : Addr) (f : Str) (ta : TA) : L2.St → Hp → XK → Prop := fun σ H Q => ta σ H fun vs H1 => ∃ v, vs = [v] ∧ ∀ d, H1 d = none → Q (.ref C) (some d) (upd H1 d (.xd [(f, v)]))
theorem pmk_ox {a1 : Expr} {ta : TA} {p pos : Pos} (T : OxF fm X.K C fI f) (F1 : Fn gd X.prog X.w X.K X.mg X.base k fI [] (spErr C f)) (hr : Rm gd (k + 1) X.A) (hg : Gl X x) (hm : X.mg x = some (.ref C))
    (hx : ∀ (pins2 : List (Addr × Obj)) (σ2 : L2.St) (H2 : Hp) (s2 : Shared) (e : Value) (s' : Shared), Inv X pins2 σ2 H2 s2 → L2.CX X.prog X.w X.stack H2 s2 (fun _ _ _ => False) e s' → X.xe e s')
    (ha : PA X [a1] ta) (hdb : (x == ("__debug__" : Str)) = false := by decide) (he : starEach (a1 :: []) X.env = (false, eval a1 X.env) :: starEach [] X.env := by rfl) (hpl : (backTo pos (starEach [] X.env)).any (·.1) = false := by rfl) :
    PMk X (.Call (.Name x p) [a1] [] pos) (tErr C f ta) := by
  intro pins s σ H Q I h
  refine wpAny_Call_Name_kw (ld_glob I hg hm ?_ hdb)
  refine PySem.W.callWith_K (h₀ := X.base) I.ok.mod.kin T.c.kp (thn (ha.run pos pins s σ H _ I h) fun us s1 ⟨vs, H1, I1, r1, v, ev, q⟩ => ⟨I1.kIn, ?_⟩) he hpl
  subst ev
  cases r1 with
  | cons rv rn =>
    cases rn
    refine call_ox T F1 hr I1 rv hx fun a d hp2 h2 g2 d2 t2 os2 big na nd ne kept un hok eos bare => ?_
    obtain ⟨hp, g, dr, tk, os⟩ := s1
    refine mk_end (C := C) (fs := [(f, v)]) (d := d) (raises_ox T.c) I1 big kept un hok eos bare ?_ ?_ nd ?_
    · exact upd_same
    · unfold errH
      rw [upd_ne ne]
      exact upd_same
    · rw [errH_del na ne]
      exact q d nd
/-- raise C(e) -/
theorem ps_rerr {W : WX} {a1 : Expr} {ta : TA} {p pos pos2 : Pos} (hc : X.calm = true) (tk : Takes X W) (T : OxF fm X.K C fI f) (F1 : Fn gd X.prog X.w X.K X.mg X.base k fI [] (spErr C f)) (hr : Rm gd (k + 1) X.A) (hg : Gl X x) (hm : X.mg x = some (.ref C))
    (hx : ∀ (pins2 : List (Addr × Obj)) (σ2 : L2.St) (H2 : Hp) (s2 : Shared) (e : Value) (s' : Shared), Inv X pins2 σ2 H2 s2 → L2.CX X.prog X.w X.stack H2 s2 (fun _ _ _ => False) e s' → X.xe e s')
    (ha : PA X [a1] ta) (hdb : (x == ("__debug__" : Str)) = false := by decide) (he : starEach (a1 :: []) X.env = (false, eval a1 X.env) :: starEach [] X.env := by rfl) (hpl : (backTo pos (starEach [] X.env)).any (·.1) = false := by rfl) :
    PS X (.Raise (some (.Call (.Name x p) [a1] [] pos)) none pos2) (fun _ σ H => tErr C f ta σ H fun cls d H' => W cls d σ H') := ps_raise hc tk (pmk_ox T F1 hr hg hm hx ha hdb he hpl)
end
end FX

/-! Facts of own exceptions, for the Hook; their readings. -/
namespace FX
open PySem PySem.Spec PyProof.Rows L2 He FL FR FH
def fOx (fm : Fam) (C f : Str) : Ft := fun K => PySem.W.excInitIn K (ga K C) fm.bm fm.newId && (PySem.W.excOver K (ga K C) fm.bm && (eqO (PySem.W.findIn K (.ref (ga K C)) "__setattr__") (some (some (.builtin "object.__setattr__"))) &&
  (decide (PySem.W.subIn K (.ref (ga K C)) (.type "BaseException") = some true) && (decide (PySem.W.typeIn K (.ref (ga K C)) = some (.type "type")) && (PySem.W.keepIn K (.ref (ga K C)) && (PySem.W.hasDictIn K (ga K C) &&
  (eqO (PySem.W.findIn K (.ref (ga K C)) f) (some none) && (eqO (PySem.W.findIn K (.ref (ga K C)) "__init__") (some (some (.ref (ma K (ga K C) "__init__")))) && decide (PySem.W.typeIn K (.ref (ma K (ga K C) "__init__")) = some (.type "function"))))))))))
theorem ox_ok {fm : Fam} {C f : Str} {K : PySem.W.Frag} (c : fOx fm C f K = true) : OxF fm K (ga K C) (ma K (ga K C) "__init__") f := by
  obtain ⟨c1, c⟩ := ba c
  obtain ⟨c2, c⟩ := ba c
  obtain ⟨c3, c⟩ := ba c
  obtain ⟨c4, c⟩ := ba c
  obtain ⟨c5, c⟩ := ba c
  obtain ⟨c6, c⟩ := ba c
  obtain ⟨c7, c⟩ := ba c
  obtain ⟨c8, c⟩ := ba c
  obtain ⟨c9, c10⟩ := ba c
  exact ⟨⟨c1, c2, eqO_ok c3, of_decide_eq_true c4, of_decide_eq_true c5, c6, c7⟩, eqO_ok c8, eqO_ok c9, of_decide_eq_true c10⟩
/-- an own class above such classes: B.__init__ is the base's -/
def fBase (B id : Str) (n : String) : Ft := fun K => PySem.W.readsIn K (ga K B) (.type "type") && (decide (PySem.W.specialIn K (.ref (ga K B)) "__getattribute__" = some (some (.builtin "type.__getattribute__"))) && (match PySem.W.findCls K (.ref (ga K B)) (.type "type") id with
  | some (.val (.builtin m)) => m == n
  | _ => false))
theorem base_ok {B id : Str} {n : String} {K : PySem.W.Frag} (c : fBase B id n K = true) : PySem.W.readsIn K (ga K B) (.type "type") = true ∧ PySem.W.specialIn K (.ref (ga K B)) "__getattribute__" = some (some (.builtin "type.__getattribute__")) ∧ PySem.W.findCls K (.ref (ga K B)) (.type "type") id = some (.val (.builtin n)) := by
  obtain ⟨c1, c⟩ := ba c
  obtain ⟨c2, c3⟩ := ba c
  refine ⟨c1, of_decide_eq_true c2, ?_⟩
  cases q : PySem.W.findCls K (.ref (ga K B)) (.type "type") id with
  | none =>
    rw [q] at c3
    cases c3
  | some r =>
    rw [q] at c3
    cases r with
    | val v =>
      cases v with
      | builtin m =>
        have e : m = n := beq_iff_eq.mp c3
        rw [e]
      | _ => cases c3
    | _ => cases c3
section
variable {σ : L2.St} {H : Hp} {Q : VK} {D : Ends} {te to : TE} {ts : TA} {K : PySem.W.Frag} {fm : Fam} {f : Str} {C : Addr} {k : XK}
theorem r_err : tErr C f ts σ H k = ts σ H (fun vs H1 => ∃ v, vs = [v] ∧ ∀ d H2, IsNew H1 d (.xd [(f, v)]) H2 → k (.ref C) (some d) H2) := by
  unfold tErr
  congr 1
  funext vs H1
  apply propext
  constructor
  · rintro ⟨v, e, q⟩
    exact ⟨v, e, fun d H2 ⟨n, e2⟩ => by subst e2; exact q d n⟩
  · rintro ⟨v, e, q⟩
    exact ⟨v, e, fun d n => q d _ ⟨n, rfl⟩⟩
theorem r_base : tBase fm K ts σ H Q = ts σ H (fun vs H1 => ∃ a ws, vs = .ref a :: ws ∧ ∃ C, H1 a = some (exo a C none) ∧ OxC fm K C ∧ ws.length ≤ 1000 ∧ Q .non H1) := propext Iff.rfl
theorem r_serr : sErr fm K f to te D σ H = te σ H (fun y H1 => to σ H1 (fun x H2 => ∃ a, x = .ref a ∧ ∃ C, H2 a = some (exo a C none) ∧ OxC fm K C ∧ PySem.W.findIn K (.ref C) f = some none ∧
  ∀ dx, H2 dx = none → dx ≠ a → D.nx σ (upd (upd H2 dx (exd dx [(f, y)])) a (exo a C (some dx))))) := propext Iff.rfl
end
end FX

/-! try .. except C as n, the error kept behind the suite. -/
namespace FX
open PySem PySem.Spec PyProof.Rows L2 FL FR HandSPX
/-- a caught exception: its class, its dict -/
def exk (a : Addr) (cls : Value) (d : Option Addr) : HO := .ext fun h => ∃ (o : Obj) (vs : Array Value), h.get? a = some o ∧ o.cls = cls ∧ o.dict = d ∧ o.data = .fields vs
theorem exk_ok {P : Program} {w : World} {H : Hp} {h : Heap} {a : Addr} {cls : Value} {d : Option Addr} {o : Obj} {vs : Array Value} (e : h.get? a = some o) (z : Zc cls d o) (f : o.data = .fields vs) : ObjOk P w H h a (exk a cls d) :=
  ⟨⟨o, vs, e, z.1, z.2, f⟩, ⟨o, e⟩, fun h1 h2 ⟨o1, vs1, e1, r1⟩ k => ⟨o1, vs1, k o1 e1, r1⟩⟩
section
variable {X : Cx} {pins : List (Addr × Obj)} {σ : L2.St} {H : Hp} {s : Shared} {a : Addr} {oe : Obj} {cls : Value} {d : Option Addr} {vs : Array Value}
/-- what was pinned is tracked from now on -/
theorem track (J : Inv X ((a, oe) :: pins) σ H s) (new : X.s_0.heap.get? a = none) (apart : ∀ p ∈ X.pn ++ pins, p.1 ≠ a) (z : Zc cls d oe) (f : oe.data = .fields vs) : Inv X pins σ (upd H a (exk a cls d)) s := by
  obtain ⟨at_, na, nl, nf, nc⟩ := J.pin (a, oe) (List.mem_append_right _ List.mem_cons_self)
  have other : ∀ {b : Addr} {u : HO}, H b = some u → b ≠ a := fun {b u} e q => by
    rw [q] at e
    rw [show H a = none from na] at e
    cases e
  refine ⟨J.ok, J.os, J.bare, ⟨J.base.keep, J.base.slot, fun b o e n x => ?_, J.base.there, fun b xs e => ?_, fun b o v e => ?_, fun b ps e => ?_⟩, J.loc, J.cell, ?_, fun x c e => ?_, fun p hp => ?_, fun b u e => ?_, J.len⟩
  · rw [upd_ne (fun q => by rw [q, new] at e; cases e)]
    exact J.base.free b o e n x
  · have t := J.base.tups b xs e
    rw [upd_ne (other t)]
    exact t
  · have t := J.base.frzs b o v e
    rw [upd_ne (other t)]
    exact t
  · obtain ⟨more, t⟩ := J.base.tbls b ps e
    exact ⟨more, by rw [upd_ne (other t)]; exact t⟩
  · rw [upd_ne (Ne.symm nl)]
    exact J.free
  · rw [upd_ne (fun q => ?_)]
    · exact J.freeC x c e
    · obtain ⟨v, o, g1, g2⟩ := J.cell x c e
      rw [q, show s.heap.get? a = some oe from at_] at g1
      cases g1
      exact nc v g2
  · have hp' : p ∈ X.pn ++ (a, oe) :: pins := (List.mem_append.mp hp).elim (fun t => List.mem_append_left _ t) fun t => List.mem_append_right _ (List.mem_cons_of_mem _ t)
    have t := J.pin p hp'
    exact ⟨t.1, by rw [upd_ne (apart p hp)]; exact t.2.1, t.2.2⟩
  · by_cases hb : b = a
    · subst hb
      rw [upd_same] at e
      cases e
      exact exk_ok at_ z f
    · rw [upd_ne hb] at e
      refine (J.hok b u e).stay (fun c v _ g => g) (fun c g => ?_) (fun c xs g => ?_)
      · rw [upd_ne (other g)]
        exact g
      · rw [upd_ne (other g)]
        exact g
end
/-- the wish of the clause -/
def wKeep (K : PySem.W.Frag) (c : Value) (i : Nat) (ts : Addr → Value → Option Addr → TS) (Wout : WX) (D : Ends) : WX := fun cls d σ H =>
  ∃ b, PySem.W.exmOne K cls c = some b ∧ (b = true → ∀ a, H a = none → ts a cls d ⟨fun σ' H' => D.nx (σ'.set i none) (upd H' a (exk a cls d)), fun v H' => D.rt v (upd H' a (exk a cls d)), fun σ' H' => D.bk (σ'.set i none) (upd H' a (exk a cls d)), fun σ' H' => D.ct (σ'.set i none) (upd H' a (exk a cls d))⟩ (σ.set i (some (.ref a))) H) ∧
    (b = false → Wout cls d σ H)
section
variable {X : Cx} {x n : Str} {c : Value} {i : Nat} {body suite : List Stmt} {b0 : Stmt} {np hpos pos : Pos} {tb : WX → TS} {ts : Addr → Value → Option Addr → TS} {Wout : WX}
theorem ps_try_keep (hstk : X.stack = X.env :: X.outer) (hfrm : X.env.frame = some X.env.locals) (hN : X.N.Nodup) (hi : X.N[i]? = some n) (hloc : X.env.kindOf n = some .local) (hnm : Names X x c) (out : Takes X Wout)
    (hbody : ∀ (W : WX) (pn : List (Addr × Obj)) (xe : Value → Shared → Prop), Takes (X.tr pn xe) W → PassesOwn (model X.prog X.w) X.A X.env xe → PSs (X.tr pn xe) body (tb W))
    (hsuite : ∀ (a : Addr) (oe : Obj) (cls : Value) (d : Option Addr) (pn : List (Addr × Obj)), Zc cls d oe → (∃ vs, oe.data = .fields vs) → PSs (X.suite a ((a, oe) :: pn)) (b0 :: suite) (ts a cls d)) (hex : X.ex = [] := by rfl) :
    PS X (.Try body [.ExceptHandler (some (.Name x np)) (some n) (b0 :: suite) hpos] [] [] pos) (fun D σ H => tb (wKeep X.K c i ts Wout D) D σ H) := by
  refine ⟨fun pins s σ H D I h => ?_⟩
  have ok := I.ok
  have frames : X.A.frames = some (X.env :: X.outer) := by rw [ok.frames, hstk]
  refine wpAny_Try_except ?_
  have run := (hbody (wKeep X.K c i ts Wout D) (X.pn ++ pins) (fun e s1 => wpAny (model X.prog X.w) X.A (noteFrame e X.env) (fun _ s2 => wpAny (model X.prog X.w) X.A (setFlight e none) (fun _ s3 =>
    wpAny (model X.prog X.w) X.A (handleBy e X.env [.ExceptHandler (some (.Name x np)) (some n) (b0 :: suite) hpos]) (SP X pins D) X.xe s3) X.xe s2) X.xe s1) ?caught PassesOwn.looking).run [] s σ H D (I.toTry _) h
  case caught =>
    rintro u s2 ⟨a, B, sI, pins2, σ2, H2, cls, d, rfl, J0, nb, up, sky, na, eos, bare, b, hb, yes, no⟩
    have J := J0.ofTry ok
    have sky2 : Sky B (X.env :: X.outer) a (Zc cls d) X.env.locals s2.heap := by rw [← hstk]; exact sky
    refine Sky.land Zc.steady frames hfrm sky2 fun h3 fly up3 => ?_
    have J3 : Inv X pins σ2 H2 { s2 with heap := h3 } := J.landed nb fly.1 (up.trans up3) eos bare
    obtain ⟨o3, vs3, at3, z3, f3⟩ := fly.there
    have notFrame : a ∉ frs (X.env :: X.outer) := fun m => by
      obtain ⟨_, o', e', q⟩ := fly.2.2.1.mem m
      rw [at3] at e'
      cases e'
      exact q _ f3
    have nL : a ≠ X.env.locals := fun q => notFrame (List.mem_filterMap.mpr ⟨X.env, List.mem_cons_self, by rw [hfrm, q]⟩)
    have nF : a ∉ X.fs := fun m => by
      obtain ⟨e, he, q⟩ := List.mem_filterMap.mp m
      exact notFrame (List.mem_filterMap.mpr ⟨e, List.mem_cons_of_mem _ he, q⟩)
    have ground : B.get? a = none := fly.2.1
    have fromB : ∀ {b : Addr} {o : Obj}, sI.heap.get? b = some o → b ∉ frs X.stack → b ≠ a := fun {b o} e m q => by
      have t := nb b o e m
      rw [q, ground] at t
      cases t
    have newA : X.s_0.heap.get? a = none := by
      cases q : X.s_0.heap.get? a with
      | none => rfl
      | some o =>
        exfalso
        obtain ⟨o2, e2⟩ := J.base.there a o q (by rw [hex]; simp)
        exact fromB e2 (by rw [hstk]; exact notFrame) rfl
    have apart : ∀ p ∈ X.pn ++ pins, p.1 ≠ a := fun p hp => by
      have t := J.pin p hp
      refine fromB t.1 (fun m => ?_)
      rw [hstk] at m
      obtain ⟨e, he, q⟩ := List.mem_filterMap.mp m
      rcases List.mem_cons.mp he with q2 | q2
      · rw [q2, hfrm] at q
        exact t.2.2.1 (Option.some.inj q).symm
      · exact t.2.2.2.1 (List.mem_filterMap.mpr ⟨e, q2, q⟩)
    have S3 := J3.suite at3 f3 na nL nF
    refine wpAny_handleBy_cons (codeAny_handlers_test ?_) (by intro q; cases q)
    have kind : PySem.W.Looks (model X.prog X.w) h3 (typeOf (.ref a)) cls := fun A Q E t k q => wpAny_typeOf_ref (k _ _ at3) (by rw [z3.1]; exact q)
    have asks := PySem.W.exm_one (M := model X.prog X.w) J3.kIn kind hb
    have name : ∀ {Q : Value → Shared → Prop} {E : Value → Shared → Prop}, Q c { s2 with heap := h3 } → wpAny (model X.prog X.w) (X.A.mark (some (.ref a))) (eval (.Name x np) X.env) Q E { s2 with heap := h3 } := fun {Q E} q => by
      obtain ⟨g1, g2, g3 | ⟨g3, g4, g5⟩⟩ := hnm
      · exact ld_glob (X := X.suite a ((a, o3) :: (X.pn ++ pins))) S3 g1 g3 q g2
      · exact ld_blt (X := X.suite a ((a, o3) :: (X.pn ++ pins))) S3 g1 g3 g4 q g5 g2
    refine name (asks.here ?_)
    cases b with
    | true =>
      refine codeAny_handlers_suite_as ?_
      refine lands_againZ fly fun h4 fly4 up4 => ?_
      have J4 : Inv X pins σ2 H2 { s2 with heap := h4 } := J.landed nb fly4.1 ((up.trans up3).trans up4) eos bare
      obtain ⟨o4, vs4, at4, z4, f4⟩ := fly4.there
      have S4 := J4.suite at4 f4 na nL nF
      refine store_ok (X := X.suite a ((a, o4) :: (X.pn ++ pins))) (v := .ref a) S4 hN hi (.inl hloc) rfl (fun s5 S5 => ?_) (.inr hloc)
      refine wpAny_mono ((hsuite a o4 cls d (X.pn ++ pins) z4 ⟨_, f4⟩).run [] s5 _ H2 _ S5 (yes rfl a na)) (fun f s6 hs => ?_) (fun _ _ z => False.elim z)
      have ends : ∀ {σ6 : L2.St} {H6 : Hp} {Q : Shared → Prop}, Inv (X.suite a ((a, o4) :: (X.pn ++ pins))) [] σ6 H6 s6 → (∀ s7, Inv X pins (σ6.set i none) (upd H6 a (exk a cls d)) s7 → Q s7) →
          wpAny (model X.prog X.w) X.A (do bindName X.env n .none; unbindBehindTheSuite X.env n hpos) (fun _ s7 => Q s7) X.xe s6 := fun {σ6 H6 Q} S6 hq => by
        have J6 : Inv X ((a, o4) :: pins) σ6 H6 s6 := (S6.unsuite ok).pins_of fun p hp => by
          rcases List.mem_cons.mp hp with q | q
          · rw [q]
            exact S6.pin (a, o4) (List.mem_append_left _ List.mem_cons_self)
          · exact S6.pin p (List.mem_append_left _ (List.mem_cons_of_mem _ (List.mem_append_right _ q)))
        exact gone_ok J6 hN hi hloc fun s7 J7 => hq s7 (track J7 newA apart z4 f4)
      cases f with
      | next =>
        obtain ⟨σ6, H6, S6, q6⟩ := hs
        exact ends S6 fun s7 J7 => ⟨_, _, J7, q6⟩
      | brk =>
        obtain ⟨σ6, H6, S6, q6⟩ := hs
        exact ends S6 fun s7 J7 => ⟨_, _, J7, q6⟩
      | cont =>
        obtain ⟨σ6, H6, S6, q6⟩ := hs
        exact ends S6 fun s7 J7 => ⟨_, _, J7, q6⟩
      | ret u =>
        obtain ⟨v6, σ6, H6, S6, r6, q6⟩ := hs
        exact ends S6 fun s7 J7 => ⟨_, _, _, J7, r6, q6⟩
    | false =>
      show wpAny _ X.A (handleBy (.ref a) X.env []) _ _ _
      refine wpAny_handleBy_nil ?_
      obtain ⟨k1, k2, k3, o5, vs5, T5, oT, ts5, at5, z5, f5, h5, r5⟩ := id fly
      unfold PySem.passOn
      refine wpAny_bind (wpAny_field at5 f5 h5 ?_)
      rw [if_neg (show ¬ ((Value.ref T5 == Value.none) = true) from by simp)]
      have leave : wpAny (model X.prog X.w) X.A (setFlight (.ref a) X.env.frame) (fun _ s4 => wpAny (model X.prog X.w) X.A (throw (.ref a) : Sem Flow) (SP X pins D) X.xe s4) X.xe { s2 with heap := h3 } := by
        rw [hfrm]
        refine setFlight_upZ fly fun h4 noted up4 => wpAny_throw (out _ _ ?_)
        exact ⟨a, B, sI, pins, σ2, H2, cls, d, rfl, J, nb, (up.trans up3).trans up4, .inr (.inr (by rw [hstk]; exact noted)), na, eos, bare, no rfl⟩
      first
        | exact wpAny_bind (wpAny_pure (wpAny_bind leave))
        | exact wpAny_bind leave
  refine wpAny_mono run (fun f s1 hs => ?_) (fun e s1 he => he)
  cases f with
  | next =>
    obtain ⟨σ1, H1, J1, q⟩ := hs
    exact wpAny_execs_nil ⟨σ1, H1, J1.ofTry ok, q⟩
  | brk =>
    obtain ⟨σ1, H1, J1, q⟩ := hs
    exact ⟨σ1, H1, J1.ofTry ok, q⟩
  | cont =>
    obtain ⟨σ1, H1, J1, q⟩ := hs
    exact ⟨σ1, H1, J1.ofTry ok, q⟩
  | ret u =>
    obtain ⟨v, σ1, H1, J1, r, q⟩ := hs
    exact ⟨v, σ1, H1, J1.ofTry ok, r, q⟩
end
end FX

/-! Laws with lambdas: tables of code objects, in the Hook and at the end. -/
namespace FLm
open PySem PySem.Spec PyProof.Rows L2 FL FR FH FX FE He LamX
/-! ### the def's code object and its table -/
def codeX (K : PySem.W.Frag) (d : DX) : Addr := match K.lookup (d.at_ K) with
  | some ⟨_, _, .func fd, _⟩ => (match fd.code with
    | .ref c => c
    | _ => 0)
  | _ => 0
def tabX (K : PySem.W.Frag) (d : DX) : Addr := tabOf K (codeX K d)
def codeB (K : PySem.W.Frag) (c P : Addr) : Bool := match K.lookup c with
  | some ⟨.type t, _, .fields vs, _⟩ => decide (t = "code") && (decide (vs[11]? = some (.ref P)) && (decide (c ≠ P) && ((match vs.getD 18 .none with | .str _ _ => true | _ => false) && ((match vs.getD 7 .none with | .int _ _ => true | _ => false) &&
    ((match vs.getD 9 .none with | .bool _ => true | _ => false) && (match vs.getD 10 .none with | .int _ _ => true | _ => false))))))
  | _ => false
theorem codeB_ok {K : PySem.W.Frag} {c P : Addr} {h : Heap} (kin : K.In h) (e : codeB K c P = true) : PySem.W.CodeHd h c P := by
  unfold codeB at e
  cases q : K.lookup c with
  | none =>
    rw [q] at e
    cases e
  | some o =>
    obtain ⟨oc, od, dt, osl⟩ := o
    rw [q] at e
    cases oc with
    | type t =>
      cases dt with
      | fields vs =>
        obtain ⟨e1, e⟩ := ba e
        obtain ⟨e2, e⟩ := ba e
        obtain ⟨e3, e⟩ := ba e
        obtain ⟨e4, e⟩ := ba e
        obtain ⟨e5, e⟩ := ba e
        obtain ⟨e6, e7⟩ := ba e
        have g1 := of_decide_eq_true e1
        have g2 := of_decide_eq_true e2
        have g3 := of_decide_eq_true e3
        subst g1
        have gd : vs.getD 11 .none = .ref P := by rw [Array.getD_eq_getD_getElem?, g2] <;> rfl
        cases s18 : vs.getD 18 .none with
        | str file tf =>
          cases s7 : vs.getD 7 .none with
          | int flags tg =>
            cases s9 : vs.getD 9 .none with
            | bool inF =>
              cases s10 : vs.getD 10 .none with
              | int text tt => exact ⟨_, vs, file, tf, flags, tg, inF, text, tt, kin _ _ q, rfl, rfl, g2, gd, s18, s7, s9, s10, g3⟩
              | _ => rw [s10] at e7; cases e7
            | _ => rw [s9] at e6; cases e6
          | _ => rw [s7] at e5; cases e5
        | _ => rw [s18] at e4; cases e4
      | _ => cases e
    | _ => cases dt <;> cases e
def tabB (K : PySem.W.Frag) (g : Addr → Option Obj) (d : DX) : Bool := codeB K (codeX K d) (tabX K d) && (match g (tabX K d) with
  | some o => emptyTab o
  | none => false)
/-- what is known of a def with lambdas -/
def TabH (K : PySem.W.Frag) (h : Heap) (d : DX) : Prop := PySem.W.CodeHd h (codeX K d) (tabX K d) ∧ h.get? (tabX K d) = some { cls := .none, data := .fields #[] } ∧ K.lookup (tabX K d) = none
/-! ### the Hook -/
abbrev AlL : Type := FH.AlX × (Bool × Bool)
def obsL (n : Nat) (fa : List Ft) (fn lm : List DX) (g : Addr → Option Obj) : AlL := (obsX fa fn (frT g (List.range n)), (lm.all fun d => tabB (frT g (List.range n)) g d, decide ((lm.map fun d => tabX (frT g (List.range n)) d).Nodup)))
def hookL (n : Nat) (fa : List Ft) (fn lm : List DX) : PySem.W.Hook where
  α := AlL
  obs := fun s => obsL n fa fn lm s.heap.get?
  val := fun _ => (valX fn, (true, true))
  says := fun _ h => ∃ K : PySem.W.Frag, K.In h ∧ SaysX fa fn K ∧ (lm.map fun d => tabX K d).Nodup ∧ ∀ d ∈ lm, TabH K h d
  of := fun w s e => by
    obtain ⟨e1, e0⟩ := Prod.mk.inj e
    obtain ⟨e2, e3⟩ := Prod.mk.inj e0
    refine ⟨frT s.heap.get? (List.range n), frT_in, e1, of_decide_eq_true e3, fun d hd => ?_⟩
    obtain ⟨c1, c2⟩ := ba (List.all_eq_true.mp e2 d hd)
    have kin : (frT s.heap.get? (List.range n)).In s.heap := frT_in
    cases q : s.heap.get? (tabX (frT s.heap.get? (List.range n)) d) with
    | none =>
      rw [q] at c2
      cases c2
    | some o =>
      rw [q] at c2
      exact ⟨codeB_ok kin c1, by rw [q, emptyTab_eq c2], frT_none q c2⟩
  keeps := fun _ h h' ⟨K, hK, c, dn, t⟩ k => ⟨K, PySem.W.Frag.In.keeps hK k, c, dn, fun d hd => by
    obtain ⟨⟨o, vs, file, tf, flags, tg, inF, text, tt, e, r⟩, t2, t3⟩ := t d hd
    exact ⟨⟨o, vs, file, tf, flags, tg, inF, text, tt, k _ _ e, r⟩, k _ _ t2, t3⟩⟩
theorem obsL_eq {n : Nat} {fa : List Ft} {fn lm : List DX} {g : Addr → Option Obj} {s : Shared} (h : ∀ a, g a = s.heap.get? a) : obsL n fa fn lm g = (hookL n fa fn lm).obs s := by
  have e : g = s.heap.get? := funext h
  rw [e] <;> rfl
/-- the tables at the base, for the defs of lm -/
def Tb (lm : List DX) (K : PySem.W.Frag) (mg : Str → Option Value) (base : Heap) : Prop := ∀ d ∈ lm, TabB base mg (codeX K d) (tabX K d)
/-! ### the end -/
def scT (K : PySem.W.Frag) (ts : List Addr) (a : Addr) (u : HO) : Hp := fun b => if b ∈ ts then some (.tbl #[]) else scH K a u b
theorem call_tab {P : Program} {w : World} {K : PySem.W.Frag} {mg mb : Str → Option Value} {k : Nat} {fa a : Addr} {lm : List DX} {sp : Sp} {s : Shared} {vs : List Value} {ns : List Int}
    (kin : K.In s.heap) (tabs : ∀ d ∈ lm, TabH K s.heap d) (hns : s.heap.Ns mainGlobals mg) (hbn : s.heap.Ns builtinsNs mb) (hbb : ∀ x : Str, x ≠ "__name__" → mb x = bootBuiltins x) (hlim : s.heap.NoLimit) (hgen : s.gens = #[])
    (hmod : ∃ (bm : Addr) (ob : Obj), mg "__builtins__" = some (.ref bm) ∧ bm ≠ builtinsNs ∧ s.heap.get? bm = some ob ∧ ob.cls = .type "module" ∧ ob.dict = some builtinsNs ∧ ob.data = .plain)
    (hobj : s.heap.get? a = some { cls := .type "list", data := .seq vs.toArray }) (hint : IntsAre vs ns) (hlen : ns.length ≤ sizeLine) (hk : k ≤ 40)
    (F : ∀ base : Heap, K.In base → base.Ns mainGlobals mg → Tb lm K mg base → Fn true P w K mg base k fa [] sp)
    (hsp : ∀ H : Hp, (∀ d ∈ lm, H (tabX K d) = some (.tbl #[])) → SqL K H a (ns.map V.int) → sp [.ref a] H (fun v _ => v = .bl true) fun _ _ _ => False) :
    codeAny (model P w) callerA (.call (.ref fa) ⟨[.ref a], []⟩) (fun r s' => r = .ok (.ret (.bool true)) ∧ OldK s.heap s'.heap ∧ s'.os = s.os ∧ AllBare s'.gens) s := by
  have rel := vals_ints hint
  have ln := hint.length
  obtain ⟨so, eso⟩ : ∃ so : Obj, so = { cls := .type "list", data := .seq vs.toArray } := ⟨_, rfl⟩
  rw [← eso] at hobj
  obtain ⟨ts, ets⟩ : ∃ ts : List Addr, ts = lm.map fun d => tabX K d := ⟨_, rfl⟩
  have tsAt : ∀ {b : Addr}, b ∈ ts → s.heap.get? b = some { cls := .none, data := .fields #[] } ∧ K.lookup b = none := fun {b} hb => by
    rw [ets] at hb
    obtain ⟨d, hd, e⟩ := List.mem_map.mp hb
    rw [← e]
    exact (tabs d hd).2
  have aT : a ∉ ts := fun hb => by
    have q := (tsAt hb).1
    rw [hobj, eso] at q
    have q2 : Data.seq vs.toArray _ = Data.fields #[] := congrArg Obj.data (Option.some.inj q)
    cases q2
  obtain ⟨H, eH⟩ : ∃ H : Hp, H = scT K ts a (.frz so (.lst (ns.map V.int))) := ⟨_, rfl⟩
  have inT : ∀ {b : Addr}, b ∈ ts → H b = some (.tbl #[]) := fun {b} hb => by
    rw [eH]
    exact if_pos hb
  have outT : ∀ {b : Addr}, b ∉ ts → H b = scH K a (.frz so (.lst (ns.map V.int))) b := fun {b} hb => by
    rw [eH]
    exact if_neg hb
  have only : ∀ {b : Addr} {v : HO}, H b = some v → (b ∈ ts ∧ v = .tbl #[]) ∨ (b = a ∧ K.lookup a = none ∧ v = .frz so (.lst (ns.map V.int))) := fun {b v} h => by
    by_cases hb : b ∈ ts
    · rw [inT hb] at h
      exact .inl ⟨hb, (Option.some.inj h).symm⟩
    · rw [outT hb] at h
      exact .inr (scH_some h)
  have ok : HOk P w H s.heap := by
    intro b v h
    rcases only h with ⟨hb, e⟩ | ⟨e1, _, e3⟩
    · subst e
      exact (tsAt hb).1
    · subst e1 e3 eso
      exact ⟨hobj, by rw [List.length_map]; exact hlen, vs, _, rel, hobj⟩
  have sq : SqL K H a (ns.map V.int) := by
    cases hka : K.lookup a with
    | none => exact .inl (.inr ⟨so, by rw [outT aT]; exact if_pos ⟨rfl, hka⟩⟩)
    | some o =>
      have z := kin a o hka
      rw [hobj] at z
      obtain rfl : so = o := Option.some.inj z
      subst eso
      exact .inr ⟨_, vs.toArray, _, hka, rfl, rfl, rfl, by rw [List.size_toArray, ln]; exact hlen, by simpa using rel⟩
  have free : ∀ {b : Addr} {o : Obj}, s.heap.get? b = some o → (b = a → K.lookup a ≠ none ∨ o ≠ so) → o ≠ { cls := .none, data := .fields #[] } → H b = none := fun {b o} h n m => by
    cases e : H b with
    | none => rfl
    | some v =>
      rcases only e with ⟨hb, _⟩ | ⟨e1, e2, _⟩
      · rw [(tsAt hb).1] at h
        exact absurd (Option.some.inj h).symm m
      · rcases n e1 with z | z
        · exact absurd e2 z
        · subst e1
          rw [hobj] at h
          exact absurd (Option.some.inj h).symm z
  have toBase : ∀ {b : Addr} {m : Str → Option Value}, s.heap.Ns b m → (hidT s.heap H).Ns b m := fun {b m} ⟨o, es, ep, h, d, r⟩ => ⟨o, es, ep, hidT_get h (free h (fun _ => .inr fun z => by
    rw [z, eso] at d
    have d' : Data.seq vs.toArray _ = Data.dict es ep := d
    cases d') fun z => by
    rw [z] at d
    cases d), d, r⟩
  have kbase : K.In (hidT s.heap H) := fun b o h => hidT_get (kin b o h) (by
    cases e : H b with
    | none => rfl
    | some v =>
      rcases only e with ⟨hb, _⟩ | ⟨e1, e2, _⟩
      · rw [(tsAt hb).2] at h
        cases h
      · rw [e1, e2] at h
        cases h)
  have mod : Mod K mg (hidT s.heap H) := ⟨kbase, toBase hns, ⟨mb, toBase hbn, hbb⟩, let ⟨mc, g1, g2⟩ := hlim; ⟨mc, toBase g1, g2⟩⟩
  have tb : Tb lm K mg (hidT s.heap H) := fun d hd => by
    obtain ⟨⟨o, us, file, tf, flags, tg, inF, text, tt, e1, r1, r2, r3, rest⟩, t2, t3⟩ := tabs d hd
    refine ⟨⟨o, us, file, tf, flags, tg, inF, text, tt, hidT_get e1 (free e1 (fun _ => .inr fun z => ?_) fun z => ?_), r1, r2, r3, rest⟩, ?_, fun z => ?_⟩
    · rw [z, eso] at r2
      cases r2
    · rw [z] at r1
      cases r1
    · obtain ⟨bm, ob, b1, b2, b3, b4, b5, b6⟩ := hmod
      have nG : bm ≠ mainGlobals := fun q => by
        obtain ⟨o, es, ep, e, hd, _⟩ := hns
        rw [q, e] at b3
        cases b3
        rw [hd] at b6
        cases b6
      have nP : bm ≠ tabX K d := fun q => by
        rw [q, t2] at b3
        cases b3
        cases b6
      refine ⟨bm, ob, b1, b2, nG, nP, hidT_get b3 (free b3 (fun _ => .inr fun z => ?_) fun z => ?_), b4, b5, b6⟩
      · rw [z, eso] at b6
        cases b6
      · rw [z] at b6
        cases b6
    · obtain ⟨o, es, ep, e, hd, _⟩ := hns
      rw [z, t2] at e
      cases e
      cases hd
  have env : Env0 P w K mg (hidT s.heap H) callerA [] s H := by
    refine ⟨rfl, mod, fun b o h => of_hidT h, Nat.le_of_eq (hidT_size _ _), trivial, ?_, ok, .of_eq hgen⟩
    intro b hb
    cases (show b ∈ ([] : List Addr) from hb)
  have run := F _ kbase (toBase hns) tb callerA [] s H [.ref a] [] [.ref a] [] _ _ (room_caller hk) env (.cons rfl .nil) .nil rfl (hsp H (fun d hd => inT (by rw [ets]; exact List.mem_map.mpr ⟨d, hd, rfl⟩)) sq)
  refine codeAny_mono run fun r s' h => ?_
  cases r with
  | error e =>
    obtain ⟨_, _, _, _, _, _, _, _, _, _, _, _, z⟩ := (show L2.CX P w [] H s (fun _ _ _ => False) e s' from h)
    exact z.elim
  | ok fl =>
    cases fl with
    | ret u =>
      obtain ⟨v, H', os, bare, un, ok', rv, q⟩ := h
      have qv : v = .bl true := q
      subst qv
      obtain rfl : u = Value.bool true := rv
      have stays : ∀ b o, b ∉ ts → s.heap.get? b = some o → s'.heap.get? b = some o := fun b o nb hb => by
        cases e : H b with
        | none =>
          refine un.keep b o hb e (fun z => ?_) (by simp)
          cases (show b ∈ ([] : List Addr) from z)
        | some v =>
          rcases only e with ⟨hb2, _⟩ | ⟨_, _, e3⟩
          · exact absurd hb2 nb
          · subst e3
            obtain ⟨g1, _⟩ := ok b _ e
            obtain ⟨g2, _⟩ := ok' b _ (un.frzs b so _ e)
            rw [hb] at g1
            rw [g2, Option.some.inj g1]
      have grows : ∀ b ∈ ts, ∃ more : Array Value, s'.heap.get? b = some { cls := .none, data := .fields more } := fun b hb => by
        obtain ⟨more, z⟩ := un.tbls b #[] (inT hb)
        exact ⟨_, ok' b _ z⟩
      refine ⟨rfl, ⟨fun b o hb => ?_, fun b o hb => ?_⟩, os, bare⟩
      · by_cases hb2 : b ∈ ts
        · obtain ⟨more, hm⟩ := grows b hb2
          have e1 := (tsAt hb2).1
          rw [hb] at e1
          cases e1
          rw [ets] at hb2
          obtain ⟨d, hd, ed⟩ := List.mem_map.mp hb2
          subst ed
          exact .inr (.inl ⟨((tabs d hd).1.tab (tabs d hd).2.1).isCodeTable, rfl, #[], more, rfl, by rw [Array.empty_append]; exact hm⟩)
        · exact .inl (stays b o hb2 hb)
      · by_cases hb2 : b ∈ ts
        · obtain ⟨more, hm⟩ := grows b hb2
          exact ⟨_, hm⟩
        · exact ⟨o, stays b o hb2 hb⟩
    | next => exact False.elim h
    | brk => exact False.elim h
    | cont => exact False.elim h
theorem walk_tab {l : PySem.W.OpenLaw} {n k : Nat} {q : Program} {loose : List Str} {XP : (Str → Option Value) → Heap → Prop} {YP : World → Heap → Prop} {d : DefRec} {lm : List DX}
    (hn : l.most = some n) (hn2 : n ≤ sizeLine) (hdf : d.params.defaults = []) (hk : k ≤ 40)
    (F : ∀ (w : World) (mg : Str → Option Value) (fa : Addr) (h : Heap), YP w h → h.Ns mainGlobals mg → mg d.name = some (.ref fa) →
      ∃ (K : PySem.W.Frag) (sp : Sp), K.In h ∧ (∀ d ∈ lm, TabH K h d) ∧ (∀ (H : Hp) (a : Addr) (ns : List Int), ns.length ≤ n → (∀ d ∈ lm, H (tabX K d) = some (.tbl #[])) → SqL K H a (ns.map V.int) → sp [.ref a] H (fun v _ => v = .bl true) fun _ _ _ => False) ∧
        ∀ base : Heap, K.In base → base.Ns mainGlobals mg → Tb lm K mg base → Fn true l.prog w K mg base k fa [] sp) :
    PySem.W.WalkO q loose XP YP l.row.toRowW d [] (fun f vs => PySem.call f vs) := by
  refine Att.attach_call hn hdf fun w s0 s1 mg mb f o pm cd dc p us is G Y hf hdat hcode hm hp hint hlen hgen => ?_
  obtain ⟨K, sp, kin, ht, h1, h2⟩ := F w mg f _ Y G.T.g hm
  exact call_tab kin ht G.T.g G.T.b G.T.builtins G.T.nolimit hgen G.T.bmain hp hint (Nat.le_trans hlen hn2) hk h2 fun H hT hS => h1 H p is hlen hT hS
/-! ### lambdas in a def -/
def qL (d : DX) : Str := d.qual ++ ".<locals>." ++ "<lambda>"
/-- the tables of all defs with lambdas -/
def TL (lm : List DX) (K : PySem.W.Frag) : List (Addr × Str) := lm.map fun d => (tabX K d, qL d)
theorem TL_mem {lm : List DX} {K : PySem.W.Frag} {d : DX} (h : d ∈ lm) : (tabX K d, qL d) ∈ TL lm K := List.mem_map.mpr ⟨d, h, rfl⟩
theorem nodup_map {α β : Type} {f : α → β} : ∀ {l : List α}, (l.map f).Nodup → ∀ {x y : α}, x ∈ l → y ∈ l → f x = f y → x = y
  | [], _, _, _, h, _, _ => nomatch h
  | z :: r, hn, x, y, hx, hy, e => by
    rw [List.map_cons, List.nodup_cons] at hn
    rcases List.mem_cons.mp hx with ex | mx <;> rcases List.mem_cons.mp hy with ey | my
    · rw [ex, ey]
    · exact absurd (show f z ∈ r.map f from List.mem_map.mpr ⟨y, my, by rw [← e, ex]⟩) hn.1
    · exact absurd (show f z ∈ r.map f from List.mem_map.mpr ⟨x, mx, by rw [e, ey]⟩) hn.1
    · exact nodup_map hn.2 mx my e
theorem TL_u {lm : List DX} {K : PySem.W.Frag} {d : DX} (dn : (lm.map fun d => tabX K d).Nodup) (h : d ∈ lm) : ∀ p ∈ TL lm K, p.1 = tabX K d → p.2 = qL d := fun p hp e => by
  obtain ⟨d2, h2, rfl⟩ := List.mem_map.mp hp
  rw [nodup_map dn h2 h e]
theorem TL_nil {lm : List DX} {K : PySem.W.Frag} {H : Hp} (h : ∀ d ∈ lm, H (tabX K d) = some (.tbl #[])) : Tabs (TL lm K) H := fun p hp => by
  obtain ⟨d, hd, rfl⟩ := List.mem_map.mp hp
  exact TabS.nil (h d hd)
/-- the code object of a def that runs -/
theorem code_of {K : PySem.W.Frag} {d : DX} {fd : FuncData} (F : FunX K d fd) : fd.code = .ref (codeX K d) := by
  obtain ⟨oc, od, dV, kV, doc, pm, an, cdv, ct, osl, e, lk, hcd, _, _⟩ := F.ex
  obtain ⟨c, ec⟩ := codeIn_ref hcd
  subst e ec
  unfold codeX
  rw [lk] <;> rfl
/-- a def's body, its code object told -/
theorem fn_code {gd : Bool} {P : Program} {w : World} {K : PySem.W.Frag} {mg : Str → Option Value} {base : Heap} {k : Nat} {d : DX} {fd : FuncData} {N ps : List Str} {sp : Sp} (F : FunX K d fd) (S : FnScope N ps (defScope d.st)) (len : ∀ vs H Q E, sp vs H Q E → vs.length = ps.length) (hb : Binds K fd ps [])
    (hbody : ∀ (A : Around) (outer : List Env) (s : Shared) (H : Hp) (vs : List V) (Q : VK) (E : XK), Rm gd k (A.deeper (envOfC d.qual (defScope d.st) s.heap.objs.size (d.at_ K) (.ref (codeX K d)))) → sp vs H Q E →
      ∃ t, PSs (cxOf (L2.CX P w) P w K mg base N d.qual (defScope d.st) (d.at_ K) (.ref (codeX K d)) A outer s H E) (defBody d.st) t ∧ t { nx := fun _ H' => Q .non H', rt := Q } (start N vs) H) : Fn gd P w K mg base (k + 1) (d.at_ K) [] sp := by
  intro A outer s H us ws vs zs Q E hr e0 r rz l hs
  obtain ⟨oc, od, dV, kV, doc, pm, an, cdv, ct, osl, e, lk, hcd, _, _⟩ := F.ex
  have hz : zs = [] := List.length_eq_zero_iff.mp l
  subst hz
  cases rz
  rw [List.append_nil] at hs
  have hl := len _ _ _ _ hs
  have ec : cdv = .ref (codeX K d) := by
    rw [← code_of F, e] <;> rfl
  have hu : (us ++ ([] : List Value)).length = ps.length := by rw [List.append_nil, ← r.length]; exact hl
  have bind := hb s us (e0.mod.kin.keeps fun b o q => (e0.bs b o q).1) hu
  subst e
  have B : StX.Bnd (L2.CX P w) P w K mg base (PySem.W.fnOf d.name d.qual (defArgs d.st) (defBody d.st) (defScope d.st) dV kV doc pm an cdv ct) ⟨us, []⟩ ps A outer s H E (fun xs H2 => sp xs H2 Q E) := fun A' Ex Q' h => by
    refine bind _ _ _ _ ?_
    have z := h s H vs us e0 Un.refl rfl (fun _ _ z => z) r hl hs
    rw [List.append_nil]
    exact z
  refine StX.run_bnd lk hcd S hr.r e0 B fun s2 H2 xs g hr2 => ?_
  rw [ec] at hr2 ⊢
  exact hbody A outer s2 H2 xs Q E ⟨hr2, fun z => guards_deeper (hr.g z)⟩ g
/-- .. in the lambda's own context -/
theorem passLam {X : Cx} {A : Around} {outer : List Env} {s : Shared} {H : Hp} {E : XK} {scope : Scope} {f c : Addr} : Passes (L2.CX (lamCx X A outer s H E scope f c).prog (lamCx X A outer s H E scope f c).w) (lamCx X A outer s H E scope f c) E := passes_call (takes_of rfl rfl rfl rfl) (fun _ _ _ _ h => h)
end FLm

/-! isinstance of a kept exception; comprehensions with a test. -/
namespace FX
open PySem PySem.Spec PyProof.Rows L2 FL FR He FH PySem.W PySem.Calls
section
variable {prog : Program} {w : World} {A : Around} {E : Value → Shared → Prop} {s : Shared} {K : Frag} {x D : Addr} {ox : Obj} {od : Option Obj}
theorem class_exc {Q : Option Value → Shared → Prop} (c : ExcC K D) (kin : K.In s.heap) (I : InstAt s.heap x ox D od) (h : Q (some (.ref D)) { s with toks := s.toks + 1 }) : wpAny (model prog w) A (getAttr? (.ref x) "__class__") Q E s := by
  have found : findObj K D od "__class__" = some (.bind (.builtin "getset_descriptor.__get__") (.builtin "object.__class__")) := by
    obtain ⟨cd, hc, _⟩ := any_some c.hd
    have some_ : (clsIn K D).isSome = true := by rw [hc] <;> rfl
    cases od with
    | none => exact findObj_dataN some_ c.ha c.hn c.ht
    | some o => exact findObj_data some_ c.ha c.hn c.ht
  obtain ⟨hp, g, d, t, os⟩ := s
  have T0 := I.type (M := model prog w)
  have T1 := looks_findIn (M := model prog w) kin c.hg
  have T2 := looks_findIn (M := model prog w) kin c.hk
  have T3 := looks_find (M := model prog w) kin I found
  have isB : Looks (model prog w) hp (isInstance (.ref x) (.type "BaseException")) true := T0.andThen (looks_subIn kin c.hs)
  have q0 : (false && onTheHeap (Value.builtin "BaseException.__getattribute__")) = false := rfl
  have q1 : (onTheHeap (Value.ref D) && Value.builtin "BaseException.__getattribute__" == Value.builtin "object.__getattribute__") = false := by
    have z : (Value.builtin "BaseException.__getattribute__" == Value.builtin "object.__getattribute__") = false := by decide +kernel
    rw [z] <;> rfl
  unfold getAttr? getAttrBy? getAttrBy
  refine wpAny_bind (wpAny_mkText (wpAny_bind (wpAny_attempt (wpAny_holding (wpAny_bind (T0.at (wpAny_bind (T1.at ?_))))))))
  show wpAny _ _ (if (onTheHeap (Value.ref D) && Value.builtin "BaseException.__getattribute__" == Value.builtin "object.__getattribute__") = true then _ else _) _ _ _
  rw [q1, if_neg Bool.false_ne_true]; unfold getAttrByItsOwn hookBefore
  refine wpAny_bind ?_
  rw [if_pos (show onTheHeap (Value.ref D) = true from rfl)]
  refine T2.at (wpAny_bind (wpAny_attempt (wpAny_holding ?_)))
  unfold callGetattribute
  rw [q0, if_neg Bool.false_ne_true]; unfold boundAndCalled
  rw [PySem.F.excAttr_ValueError.ga.bind (.ref x)]; refine wpAny_bind (wpAny_pure ?_)
  show wpAny _ _ (call (.builtin "BaseException.__getattribute__") [.ref x, .str "__class__" t]) _ _ _
  refine wpAny_call (codeAny_call_builtin PySem.F.excAttr_ValueError.ga.plain PySem.F.entry_bexc_ga (@check_slot (model prog w) _ _ ⟨hp, g, d, t + 1, os⟩ "BaseException.__getattribute__" "BaseException" "__getattribute__" (.ref x) [.str "__class__" t] [] _ (by decide +kernel) (by decide +kernel) isB (PySem.F.args_bexc_ga (.ref x) (.str "__class__" t)) ?_))
  unfold Builtin.«object.__getattribute__»; refine wpAny_bind (wpAny_of_eq (a := ((Value.ref x : Value), [Value.str "__class__" t])) (by first | rfl | (simp only [slotArgs]; rfl)) (wpAny_bind (wpAny_pure (wpAny_bind (T0.at (wpAny_bind (T3.at ?_)))))))
  show wpAny _ _ (holding [Value.builtin "object.__class__"] (call (.builtin "getset_descriptor.__get__") [.builtin "object.__class__", .ref x, .ref D]) >>= ret) _ _ _
  refine wpAny_bind (wpAny_holding (wpAny_call (class_get (s := ⟨hp, g, d, t + 1, os⟩) (ox := ox) (od := od) kin I c.hm (wpAny_pure ?_))))
  show wpAny _ _ (handedOut (.ref D)) _ _ _
  rw [handedOut_of (v := .ref D) rfl]
  first
    | exact wpAny_pure (wpAny_pure h)
    | exact wpAny_pure h
    | exact wpAny_pure (wpAny_bind (wpAny_pure (wpAny_pure h)))
theorem kit_exc (c : ExcC K D) : KitX K (.ref x) (.ref D) (fun h => InstAt h x ox D od) where
  ty := fun _ _ _ I => I.type
  it := fun _ _ kin _ => by
    obtain ⟨cd, hc, _⟩ := any_some c.hd
    unfold clsIn at hc
    split at hc
    · rename_i _ _ _ _ ho
      intro A' Q' E' s' k q
      unfold isType loadHead
      exact wpAny_bind (wpAny_loadPart (k _ _ (kin _ _ ho)) (wpAny_pure q))
    · cases hc
  ne := fun h tp dd its n sl kin htp => by
    obtain ⟨cd, hc, _⟩ := any_some c.hd
    refine Bool.eq_false_iff.mpr fun q => ?_
    obtain rfl : D = tp := Value.ref.inj (beq_iff_eq.mp q)
    unfold clsIn at hc
    split at hc
    · rename_i _ _ _ _ ho
      have z := (kin _ _ ho).symm.trans htp
      cases z
    · cases hc
  ca := fun kin I k => class_exc c kin I k
end
/-- isinstance(e, C), e kept -/
def rIsK (K : PySem.W.Frag) : List V → Hp → VK → Prop := fun xs H Q => ∃ (a dd D B : Addr) (fs : List (Str × V)) (b : Bool), xs = [.ref a, .ref B] ∧ H a = some (exk a (.ref D) (some dd)) ∧ H dd = some (.xd fs) ∧ ExcC K D ∧ PySem.W.kitOne K (.ref D) (.ref B) = some b ∧ Q (.bl b) H
theorem call_isk {X : Cx} : CallR X (.builtin "isinstance") (rIsK X.K) := by
  intro pins s σ H xs us Q I r h
  obtain ⟨a, dd, D, B, fs, b, rfl, ha, hd, c, e, q⟩ := h
  obtain ⟨u1, u2, rfl, r1, r2⟩ := vals2 r
  obtain rfl : u1 = Value.ref a := r1
  obtain rfl : u2 = Value.ref B := r2
  obtain ⟨⟨o, vs, e1, e2, e3, e4⟩, _, _⟩ := I.hok a _ ha
  obtain ⟨mA, hns, _⟩ := (show ∃ mA, s.heap.Ns1 dd mA ∧ ∀ f, RelO (fs.lookup f) (mA f) from I.hok dd _ hd)
  obtain ⟨od, e5, _⟩ := lookIn_ns hns
  have J : PySem.W.InstAt s.heap a o D (some od) := ⟨e1, e2, by unfold PySem.W.notCls; rw [e4] <;> rfl, by rw [e3]; exact e5⟩
  exact kia_one (kit_exc c) I.kIn J e (fun z => nomatch z) fun tk => ⟨.bl b, H, I.kept (t' := tk) fun _ _ z => z, rfl, q⟩
/-- the fact of such a class -/
def fExcC (C : Str) : Ft := fun K => eqO (PySem.W.findIn K (.ref (ga K C)) "__getattribute__") (some (some (.builtin "BaseException.__getattribute__"))) && (eqO (PySem.W.findIn K (.ref (ga K C)) "__getattr__") (some none) && (decide (PySem.W.subIn K (.ref (ga K C)) (.type "BaseException") = some true) &&
  (PySem.W.hasDictIn K (ga K C) && (eqO (PySem.W.findIn K (.ref (ga K C)) "__class__") (some (some (.builtin "object.__class__"))) && (decide (PySem.W.specialIn K (.builtin "object.__class__") "__get__" = some (some (.builtin "getset_descriptor.__get__"))) &&
  (decide (PySem.W.takesIn K (.builtin "object.__class__") = some true) && decide (PySem.W.mroIn K (ga K C) (.type "object") = some true)))))))
theorem excC_ok {C : Str} {K : PySem.W.Frag} (c : fExcC C K = true) : ExcC K (ga K C) := by
  obtain ⟨c1, c⟩ := ba c
  obtain ⟨c2, c⟩ := ba c
  obtain ⟨c3, c⟩ := ba c
  obtain ⟨c4, c⟩ := ba c
  obtain ⟨c5, c⟩ := ba c
  obtain ⟨c6, c⟩ := ba c
  obtain ⟨c7, c8⟩ := ba c
  exact ⟨eqO_ok c1, eqO_ok c2, of_decide_eq_true c3, c4, eqO_ok c5, of_decide_eq_true c6, of_decide_eq_true c7, of_decide_eq_true c8⟩
/-- except C: is it one? -/
def fExm (C B : Str) (b : Bool) : Ft := fun K => decide (PySem.W.exmOne K (.ref (ga K C)) (.ref (ga K B)) = some b)
theorem exmF_ok {C B : Str} {b : Bool} {K : PySem.W.Frag} (c : fExm C B b K = true) : PySem.W.exmOne K (.ref (ga K C)) (.ref (ga K B)) = some b := of_decide_eq_true c
/-! ### comprehensions with a test -/
def selK (te : TE) (σ : L2.St) (D : Addr) (N : Hp → Prop) (b : Bool) (H : Hp) : Prop := if b = true then te σ H (addK D N) else N H
theorem selK_t {te : TE} {σ : L2.St} {D : Addr} {N : Hp → Prop} {H : Hp} : selK te σ D N true H = te σ H (addK D N) := if_pos rfl
theorem selK_f {te : TE} {σ : L2.St} {D : Addr} {N : Hp → Prop} {H : Hp} : selK te σ D N false H = N H := if_neg Bool.false_ne_true
def lcT (D : Addr) (i : Nat) (Pv : Addr → Nat → List V → Hp → Prop) (H : Hp) : Prop := ∃ acc, H D = some (.lst acc) ∧ acc.length ≤ i ∧ Pv D i acc H
theorem addK_mkT {D : Addr} {i : Nat} {acc : List V} {y : V} {H4 : Hp} {Pv : Addr → Nat → List V → Hp → Prop} (e : H4 D = some (.lst acc)) (l : acc.length ≤ i) (hi : i < 16777215) (p : Pv D (i + 1) (acc ++ [y]) (upd H4 D (.lst (acc ++ [y])))) : addK D (lcT D (i + 1) Pv) y H4 := by
  refine ⟨acc, e, ?_, acc ++ [y], upd_same, by simp; omega, p⟩
  have := sizeLine_eq
  omega
section
variable {σ : L2.St} {H : Hp} {Q : VK} {g : TG} {te : TE} {tt : TT} {vs : List Nat} {J : It} {n : Nat} {G : Hp → Prop} {Y : Nat → Hp → V → Hp → Prop}
theorem lcK_itT (w : Walk J n G Y) (Pv : Addr → Nat → List V → Hp → Prop) (h0 : ∀ D H0, IsNew H D (.lst []) H0 → Pv D 0 [] H0) (hG : ∀ D i acc H1, H D = none → i ≤ n → H1 D = some (.lst acc) → Pv D i acc H1 → G H1)
    (hs : ∀ D i x acc H1 H2, H D = none → i < n → H1 D = some (.lst acc) → acc.length ≤ i → Pv D i acc H1 → Y i H1 x H2 → g x (wipe σ vs) H2 fun σ2 H3 => wipe σ2 vs = wipe σ vs ∧ tt σ2 H3 (selK te σ2 D (lcT D (i + 1) Pv)))
    (hd : ∀ D acc H1, H D = none → H1 D = some (.lst acc) → Pv D n acc H1 → Q (.ref D) H1) : lcK g tt te vs σ Q J H := by
  intro D nD
  refine lc_it w (fun i H1 => lcT D i Pv H1) ⟨[], upd_same, Nat.le_refl _, h0 D _ ⟨nD, rfl⟩⟩ (fun i H1 hi ⟨acc, e, _, p⟩ => hG D i acc H1 nD hi e p) ?_ ?_
  · rintro i x H1 H2 hi ⟨acc, e, l, p⟩ y
    exact hs D i x acc H1 H2 nD hi e l p y
  · rintro H1 ⟨acc, e, l, p⟩
    exact hd D acc H1 nD e p
end
/-! ### the call of what was got, as a statement -/
theorem takes_len {X : Cx} {W : WX} (tk : Takes X W) : Takes X (fun cls d σ H => σ.length = X.N.length → W cls d σ H) := fun u s' ⟨a, B, sI, pins, σ, H, cls, d, e, I, nb, up, sky, na, os, ag, w⟩ =>
  tk u s' ⟨a, B, sI, pins, σ, H, cls, d, e, I, nb, up, sky, na, os, ag, w I.len⟩
theorem act_stmt {X : Cx} {W : WX} {a : Str} {p1 p2 pos : Pos} {f c : Addr} {q : Str} {tl : XK → Hp → VK → Prop} {n : Nat} (hn : X.N.length = n)
    (act : ∀ E : XK, (∀ cls d σ' H', E cls d H' → σ'.length = n → W cls d σ' H') → PE X (.Call (.Name a p1) [] [] p2) (fun σZ HZ Q => σZ[0]? = some (some (.ref f)) ∧ HZ c = some (LamX.CodeO c q) ∧ tl E HZ Q)) :
    PSs X [.Expr (.Call (.Name a p1) [] [] p2) pos] (fun D σ H => ∃ E : XK, (∀ cls d σ' H', E cls d H' → σ'.length = n → W cls d σ' H') ∧ σ[0]? = some (some (.ref f)) ∧ H c = some (LamX.CodeO c q) ∧ tl E H (fun _ H' => D.nx σ H')) := by
  refine ⟨fun pins s σ H D I h => ?_⟩
  obtain ⟨E, hW, h1, h2, h3⟩ := h
  exact (pss_one (ps_expr (pos := pos) (act E hW))).run pins s σ H D I ⟨h1, h2, h3⟩
/-- xs != [], whatever the items -/
def rNeNil : R2 := fun x y H Q => ∃ a b, x = .ref a ∧ y = .ref b ∧ ∃ xs, H a = some (.lst xs) ∧ H b = some (.lst []) ∧ Q (.bl (!xs.isEmpty)) H
theorem op_ne_nil {X : Cx} (hu : X.A.units + 64 < cLine) : OpR X (compareOp .NotEq) rNeNil := by
  intro pins s σ H x y v u Q I r1 r2 h
  obtain ⟨a, b, rfl, rfl, xs, ha, hb, q⟩ := h
  obtain rfl : v = Value.ref a := r1
  obtain rfl : u = Value.ref b := r2
  obtain ⟨_, its, n, rv, ea⟩ := (show xs.length ≤ sizeLine ∧ ∃ (its : List Value) (n : Nat), Vals xs its ∧ s.heap.get? a = some { cls := .type "list", data := .seq its.toArray n } from I.hok a _ ha)
  obtain ⟨_, its2, n2, rv2, eb⟩ := (show ([] : List V).length ≤ sizeLine ∧ ∃ (its : List Value) (n : Nat), Vals [] its ∧ s.heap.get? b = some { cls := .type "list", data := .seq its.toArray n } from I.hok b _ hb)
  cases rv2
  have la : s.heap.IsList a its.toArray := ⟨_, ea, rfl, _, rfl⟩
  have lb : s.heap.IsList b (#[] : Array Value) := ⟨_, eb, rfl, _, rfl⟩
  have room : X.A.units < cLine := by omega
  cases xs with
  | nil =>
    cases rv
    refine SeqAt.RcNeAt.lists (e := fun _ => true) la lb rfl room (fun j h1 h2 => absurd h2 (by simp)) X.prog X.w X.xe _ ?_
    exact ⟨.bl false, H, I, rfl, q⟩
  | cons z r =>
    cases rv with
    | cons r1 rr =>
      refine SeqAt.RcNeAt.lists_lengths la lb (by simp) room X.prog X.w X.xe _ ?_
      exact ⟨.bl true, H, I, rfl, q⟩
theorem r_dnew {σ : L2.St} {H : Hp} {Q : VK} : tDNewK σ H Q = ∀ p H2, IsNew H p (.dK []) H2 → Q (.ref p) H2 := by
  unfold tDNewK
  apply propext
  constructor
  · intro q p H2 n
    rw [n.2]
    exact q p n.1
  · intro q p n
    exact q p _ ⟨n, rfl⟩
end FX

/-! Own special methods: __len__. Calls with a lambda, read. -/
namespace FX
open PySem PySem.Spec PyProof.Rows L2 FL FR He FH PySem.W PySem.Calls
theorem r_lam {Tt : List (Addr × Str)} {TT : (XK → Hp → VK → Prop) → Hp → VK → Prop} {t : XK → TE} {σ : L2.St} {H : Hp} {Q : VK} :
    LamX.tLam Tt TT t σ H Q = (LamX.Tabs Tt H ∧ ∀ H1, LamX.ExtN H H1 → LamX.Tabs Tt H1 → TT (fun E H' Q' => t E σ H' Q') H1 Q) := propext Iff.rfl
section
variable {gd : Bool} {X : Cx} {k : Nat} {f C : Addr} {sp : Sp} {E : XK}
/-- an own def called inside a builtin -/
theorem own_in1 {pins : List (Addr × Obj)} {σ : L2.St} {H : Hp} {s : Shared} {us : List Value} {vs : List V} {Q : VK} {R : Value → Shared → Prop} (F : Fn gd X.prog X.w X.K X.mg X.base k f [] sp) (hr : Rm gd (k + 1) X.A) (hx : Passes (L2.CX X.prog X.w) X E)
    (I : Inv X pins σ H s) (r : Vals vs us) (h : sp vs H Q E) (hR : ∀ v H' u s', Inv X pins σ H' s' → RelV v u → Q v H' → R u s') : wpAny (model X.prog X.w) X.A.in1 (call (.ref f) us) R X.xe s := by
  refine wpAny_call (codeAny_mono (F X.A.in1 X.stack s H us [] vs [] Q E hr.in1 I.env0.in1 r .nil rfl (by rw [List.append_nil]; exact h)) fun r' s' hq => ?_)
  cases r' with
  | error e => exact hx pins σ H s e s' I hq
  | ok fl =>
    cases fl with
    | ret u =>
      obtain ⟨v, H', I3, rv, q3⟩ := I.after hq
      exact hR v H' u s' I3 rv q3
    | next => exact False.elim hq
    | brk => exact False.elim hq
    | cont => exact False.elim hq
/-- len of an instance with its own __len__ -/
def rLenO (C : Addr) (sp : Sp) (E : XK) : List V → Hp → VK → Prop := fun xs H Q => ∃ a, xs = [.ref a] ∧ ∃ dx fs, H a = some (.ins C dx fs) ∧ sp [.ref a] H (fun v H2 => ∃ n : Int, v = .int n ∧ 0 ≤ n ∧ n < 9223372036854775808 ∧ Q (.int n) H2) E
theorem call_lenO (c : Cls X.K C) (hm : Meth X.K C "__len__" f) (F : Fn gd X.prog X.w X.K X.mg X.base k f [] sp) (hr : Rm gd (k + 1) X.A) (hx : Passes (L2.CX X.prog X.w) X E) : CallR X (.builtin "len") (rLenO C sp E) := by
  intro pins s σ H xs us Q I r h
  obtain ⟨a, rfl, dx, fs, ha, q⟩ := h
  obtain ⟨u, rfl, ru⟩ := vals1 r
  obtain rfl : u = Value.ref a := ru
  obtain ⟨mA, O, _, _, _, _⟩ := ins_get I.hok ha
  obtain ⟨od, J, _⟩ := O.look
  refine call_function_entry kind_len plain_len entry_len (args_len1 _) ?_
  unfold Builtin.«len»
  refine wpAny_bind (m := oneArg "len" _) (wpAny_pure ?_)
  refine wpAny_bind (m := callSpecial? (.ref a) (Str.ofString "__len__")) (special_fn I.kIn J hm.at_ (beq_iff_eq.mp hm.fn) ?_)
  refine own_in1 (vs := [V.ref a]) F hr hx I (.cons rfl .nil) q fun v H' u s' I2 rv q2 => ?_
  obtain ⟨n, rfl, h0, h1, q3⟩ := q2
  obtain ⟨tk, rfl⟩ := (show ∃ tk, u = Value.int n tk from rv)
  refine wpAny_bind (wpAny_holding (wpAny_pure ?_))
  refine wpAny_bind (wpAny_letGo ?_)
  show wpAny _ _ (if n < 0 then _ else _) _ _ _
  rw [if_neg (by omega)]
  show wpAny _ _ (if n ≥ 2 ^ 63 then _ else _) _ _ _
  rw [if_neg (by omega)]
  exact wpAny_bind (wpAny_mkInt (wpAny_pure ⟨_, rfl, (show EP X pins σ Q _ _ from ⟨V.int n, H', I2.tok _, ⟨_, rfl⟩, q3⟩)⟩))
end
end FX

/-! Classmethods and class constants as facts; stars; split; a class called by a local name. -/
namespace FX
open PySem PySem.Spec PyProof.Rows L2 FL FR He FH
/-! ### a class read -/
def cgA (K : PySem.W.Frag) (p : Addr) : Addr := match PySem.W.recIn K p "classmethod" with
  | some (.ref g :: _) => g
  | _ => 0
def aC (x m : Str) : PySem.W.Frag → Addr := fun K => cgA K (ma K (ga K x) m)
def fRead (x : Str) : Ft := fun K => PySem.W.readsIn K (ga K x) (.type "type") && decide (PySem.W.specialIn K (.ref (ga K x)) "__getattribute__" = some (some (.builtin "type.__getattribute__")))
def fVal (x f : Str) (v : Dv) : Ft := fun K => match PySem.W.findCls K (.ref (ga K x)) (.type "type") f with
  | some (.val u) => relB (v.v K) u
  | _ => false
def fCMet (x m : Str) : Ft := fun K => (match PySem.W.findCls K (.ref (ga K x)) (.type "type") m with
  | some (.get a b c d) => decide (a = .builtin "classmethod.__get__") && (decide (b = .ref (ma K (ga K x) m)) && (decide (c = .none) && decide (d = .ref (ga K x))))
  | _ => false) && ((match PySem.W.recIn K (ma K (ga K x) m) "classmethod" with
  | some (.ref _ :: _) => true
  | _ => false) && PySem.W.fnIn K (cgA K (ma K (ga K x) m)))
section
variable {K : PySem.W.Frag} {x f m : Str}
theorem read_ok (c : fRead x K = true) : ClX.CRead K (ga K x) (.type "type") := by
  obtain ⟨c1, c2⟩ := ba c
  exact ⟨c1, of_decide_eq_true c2⟩
theorem val_ok {v : Dv} (c : fVal x f v K = true) : ∃ u, ClX.CVal K (ga K x) (.type "type") f (v.v K) u := by
  unfold fVal at c
  cases q : PySem.W.findCls K (.ref (ga K x)) (.type "type") f with
  | none =>
    rw [q] at c
    cases c
  | some o =>
    rw [q] at c
    cases o with
    | val u => exact ⟨u, q, relB_ok c⟩
    | _ => cases c
theorem cmet_ok (c : fCMet x m K = true) : ClX.CMet K (ga K x) (.type "type") m (ma K (ga K x) m) (aC x m K) := by
  obtain ⟨c1, c⟩ := ba c
  obtain ⟨c2, c3⟩ := ba c
  refine ⟨?_, ?_, c3⟩
  · cases q : PySem.W.findCls K (.ref (ga K x)) (.type "type") m with
    | none =>
      rw [q] at c1
      cases c1
    | some o =>
      rw [q] at c1
      cases o with
      | get a b cc d =>
        obtain ⟨e1, e⟩ := ba (show (decide (a = .builtin "classmethod.__get__") && (decide (b = .ref (ma K (ga K x) m)) && (decide (cc = .none) && decide (d = .ref (ga K x))))) = true from c1)
        obtain ⟨e2, e⟩ := ba e
        obtain ⟨e3, e4⟩ := ba e
        rw [of_decide_eq_true e1, of_decide_eq_true e2, of_decide_eq_true e3, of_decide_eq_true e4]
      | _ => cases c1
  · unfold aC cgA
    cases q : PySem.W.recIn K (ma K (ga K x) m) "classmethod" with
    | none =>
      rw [q] at c2
      cases c2
    | some l =>
      rw [q] at c2
      cases l with
      | nil => cases c2
      | cons a r =>
        cases a with
        | ref g => exact ⟨r, rfl⟩
        | _ => cases c2
end
section
variable {X : Cx} {gd : Bool} {k : Nat} {f g C p : Addr} {mc : Value} {sp : Sp} {E : XK} {x m : Str} {e o fe : Expr} {es : List Expr} {te ta tf : TE} {t : TA} {ppos sp_ pos apos : Pos}
theorem run_cmF {pins : List (Addr × Obj)} {σ : L2.St} {H : Hp} {s : Shared} {q : Addr} {Q : VK} {us : List Value} {vs : List V} (F : Fn gd X.prog X.w X.K X.mg X.base k g [] sp) (hr : Rm gd k X.A) (hx : Passes (L2.CX X.prog X.w) X E) (I : Inv X ((q, PySem.W.methodObj (.ref g) (.ref C)) :: pins) σ H s)
    (r : Vals vs us) (h : sp (.ref C :: vs) H Q E) : wpAny (model X.prog X.w) X.A (call (.ref q) us) (EP X pins σ Q) X.xe s := by
  have z : wpAny (model X.prog X.w) X.A (call (.ref q) us) (EP X ((q, PySem.W.methodObj (.ref g) (.ref C)) :: pins) σ Q) X.xe s := by
    refine wpAny_call (PySem.W.method_call (ClX.pin_at I) (codeAny_mono (F X.A X.stack s H (.ref C :: us) [] (.ref C :: vs) [] Q E hr I.env0 (.cons rfl r) .nil rfl (by rw [List.append_nil]; exact h)) fun r' s' hq => ?_))
    cases r' with
    | error er => exact hx _ σ H s er s' I hq
    | ok fl =>
      cases fl with
      | ret u => exact I.after hq
      | next => exact False.elim hq
      | brk => exact False.elim hq
      | cont => exact False.elim hq
  exact thn z fun _ _ y => ClX.unpinE y
/-- C.m(..), m a classmethod of C -/
def cCm (C : Addr) (sp : Sp) (E : XK) (ta : TE) (t : TA) : TE := fun σ H Q => ta σ H fun x H1 => x = .ref C ∧ t σ H1 fun vs H2 => sp (.ref C :: vs) H2 Q E
theorem r_cm {σ : L2.St} {H : Hp} {Q : VK} : cCm C sp E ta t σ H Q = ta σ H fun x H1 => x = .ref C ∧ t σ H1 fun vs H2 => sp (.ref C :: vs) H2 Q E := propext Iff.rfl
theorem pe_cm {pl : Sem Bool} (he : PE X o ta) (r : ClX.CRead X.K C mc) (c : ClX.CMet X.K C mc m p g) (F : Fn gd X.prog X.w X.K X.mg X.base k g [] sp) (hr : Rm gd k X.A) (hx : Passes (L2.CX X.prog X.w) X E) (ha : PA X (e :: es) t)
    (hst : starEach (e :: es) X.env = (false, eval e X.env) :: starEach es X.env := by rfl) (hpl : (backTo pos (starEach es X.env)).any (·.1) = false := by rfl)
    (ht : eval (.Call (.Attribute o m apos) (e :: es) [] pos) X.env = (do
      let ov ← eval o X.env
      standAt apos.atName
      let (f, first) ← holding [ov] (getMethod ov m pl)
      callWith pos f first (backTo pos (starEach (e :: es) X.env)) (backToKw pos (keywordEach [] X.env))) := by rfl) :
    PE X (.Call (.Attribute o m apos) (e :: es) [] pos) (cCm C sp E ta t) := by
  refine ⟨fun pins s σ H Q I h => ?_⟩
  refine PySem.W.methodCall_KW (pl := pl) (thn (he.run pins s σ H _ I h) fun u s1 ⟨x, H1, I1, rx, ex, q⟩ => ?_) ht
  subst ex
  obtain rfl : u = Value.ref C := rx
  refine ClX.getmethcm_ok I1 r c fun s2 I2 => ?_
  refine ClX.callwith_cm I2 (ClX.base_none I1 (Nat.le_refl _)) c.fi (thn (ha.run pos _ s2 σ H1 _ I2 q) fun us s3 ⟨vs, H2, I3, rv, q2⟩ => ⟨⟨ClX.pin_at I3, I3.kIn⟩, ?_⟩) hst hpl
  exact run_cmF F hr hx I3 rv q2
theorem r_cval {K : PySem.W.Frag} {f : Str} {σ : L2.St} {H : Hp} {Q : VK} : ClX.tCVal K ta f σ H Q = ta σ H fun x H1 => ∃ C mc v u, x = .ref C ∧ ClX.CRead K C mc ∧ ClX.CVal K C mc f v u ∧ Q v H1 := propext Iff.rfl
/-- c( *xs), c a local name -/
theorem pe_mkLS (hf : PE X (.Name x ppos) tf) (M : Mk X.K C f) (F : Fn gd X.prog X.w X.K X.mg X.base k f [] sp) (hr : Rm gd (k + 1) X.A) (hx : Passes (L2.CX X.prog X.w) X E) (he : PE X e te)
    (hst : starEach [.Starred e sp_] X.env = [(true, eval e X.env)] := by rfl) :
    PE X (.Call (.Name x ppos) [.Starred e sp_] [] pos) (fun σ H Q => tf σ H fun y0 H0 => y0 = V.ref C ∧ te σ H0 fun y H1 => ∃ a xs, y = V.ref a ∧ (SqT X.K H1 a xs ∨ SqL X.K H1 a xs) ∧ ∀ x dx, H1 x = Option.none → H1 dx = Option.none → dx ≠ x →
      sp (V.ref x :: xs) (upd (upd H1 dx (.own x)) x (.ins C dx [])) (fun v H2 => v = .non ∧ Q (.ref x) H2) E) := by
  refine ⟨fun pins s σ H Q I h => ?_⟩
  refine wpAny_Call_Name_kw (thn (hf.run pins s σ H _ I h) fun fv s0 ⟨v, H0, I0, r0, ev, q0⟩ => ?_)
  subst ev
  obtain rfl : fv = Value.ref C := r0
  refine PySem.W.callWith_S (h₀ := X.base) I0.ok.mod.kin M.kp (thn (he.run pins s0 σ H0 _ I0 q0) fun v s1 ⟨y, H1, I1, ry, a, xs, ey, hxs, q⟩ => ?_) hst
  subst ey
  obtain rfl : v = Value.ref a := ry
  exact StX.star_any I1 hxs fun us s2 I2 rv => ⟨I2.kIn, run_mk0 M F hr hx I2 rv q⟩
/-! ### stars whose sequence is tracked -/
def tStarT (te : TE) (t : TA) : TA := fun σ H Q => te σ H fun x H1 => ∃ p, x = V.ref p ∧ ∃ xs, H1 p = some (.tup xs) ∧ t σ H1 fun ys H2 => Q (xs ++ ys) H2
def tStarL (te : TE) (t : TA) : TA := fun σ H Q => te σ H fun x H1 => ∃ p, x = V.ref p ∧ ∃ xs, H1 p = some (.lst xs) ∧ t σ H1 fun ys H2 => Q (xs ++ ys) H2
theorem r_starT {σ : L2.St} {H : Hp} {Q : List V → Hp → Prop} : tStarT te t σ H Q = te σ H fun x H1 => ∃ p, x = V.ref p ∧ ∃ xs, H1 p = some (.tup xs) ∧ t σ H1 fun ys H2 => Q (xs ++ ys) H2 := propext Iff.rfl
theorem r_starL {σ : L2.St} {H : Hp} {Q : List V → Hp → Prop} : tStarL te t σ H Q = te σ H fun x H1 => ∃ p, x = V.ref p ∧ ∃ xs, H1 p = some (.lst xs) ∧ t σ H1 fun ys H2 => Q (xs ++ ys) H2 := propext Iff.rfl
theorem pa_starT (he : PE X e te) (hr : PA X es t) (hs : starEach (.Starred e ppos :: es) X.env = (true, eval e X.env) :: starEach es X.env := by rfl) : PA X (.Starred e ppos :: es) (tStarT te t) := by
  refine ⟨fun pos pins s σ H Q I h => ?_⟩
  refine PySem.W.items_star (thn (he.run pins s σ H _ I h) fun v s1 ⟨y, H1, I1, ry, a, ey, xs, hx, q⟩ => ?_) hs
  subst ey
  obtain rfl : v = Value.ref a := ry
  refine StX.star_any I1 (.inl (SqT.of hx)) fun us s2 I2 rv => ?_
  exact thn (hr.run pos pins s2 σ H1 _ I2 q) fun ws s3 ⟨vs, H3, I3, r3, q3⟩ => ⟨xs ++ vs, H3, I3, rv.append r3, q3⟩
theorem pa_starL (he : PE X e te) (hr : PA X es t) (hs : starEach (.Starred e ppos :: es) X.env = (true, eval e X.env) :: starEach es X.env := by rfl) : PA X (.Starred e ppos :: es) (tStarL te t) := by
  refine ⟨fun pos pins s σ H Q I h => ?_⟩
  refine PySem.W.items_star (thn (he.run pins s σ H _ I h) fun v s1 ⟨y, H1, I1, ry, a, ey, xs, hx, q⟩ => ?_) hs
  subst ey
  obtain rfl : v = Value.ref a := ry
  refine StX.star_any I1 (.inr (SqL.of hx)) fun us s2 I2 rv => ?_
  exact thn (hr.run pos pins s2 σ H1 _ I2 q) fun ws s3 ⟨vs, H3, I3, r3, q3⟩ => ⟨xs ++ vs, H3, I3, rv.append r3, q3⟩
/-! ### xs * k -/
def rRepN : R2 := fun x y H Q => ∃ l, x = .ref l ∧ ∃ k, y = .int k ∧ ∃ xs, H l = some (.lst xs) ∧ 0 ≤ k ∧ k ≤ 1000 ∧ xs.length ≤ 1000 ∧ ∀ p H2, IsNew H p (.lst (List.replicate k.toNat xs).flatten) H2 → Q (.ref p) H2
theorem op_rep_n : OpR X (binaryOp .Mult) rRepN := OpR.mono op_rep fun x y H Q ⟨l, e1, k, e2, xs, h, k0, k1, l1, q⟩ => ⟨l, k, xs, e1, e2, h, by omega, by omega, fits (Nat.le_trans (Nat.mul_le_mul l1 (show k.toNat ≤ 1000 by omega)) (by decide)), fun p n => q p _ ⟨n, rfl⟩⟩
/-! ### split -/
def rSplitN : V → List V → Hp → VK → Prop := fun x xs H Q => ∃ a b, x = .str a ∧ xs = [.str b] ∧ (b.length == 0) = false ∧ a.length + 2 ≤ sizeLine ∧ ∀ p H2, IsNew H p (.lst ((Txt.split a b).map V.str)) H2 → Q (.ref p) H2
theorem pe_splitN {te to : TE} {e o : Expr} {apos pos : Pos} (ho : PE X o to) (he : PE X e te) (hs : starEach [e] X.env = [(false, eval e X.env)] := by rfl) (hbase : attributeBase o "split" X.env (eval o X.env) = eval o X.env := by rfl) (hline : (apos.endLine == pos.line) = true := by rfl) :
    PE X (.Call (.Attribute o "split" apos) [e] [] pos) (tM1 rSplitN to te) :=
  pe_m1 F.slot_str_split F.type_str_split (fun pins s σ H x xs v us Q I r1 rs ⟨a, b, e1, e2, e3, e4, q⟩ => mt_split pins s σ H x xs v us Q I r1 rs ⟨a, b, e1, e2, e3, e4, fun p n => q p _ ⟨n, rfl⟩⟩) ho he hs hbase hline
end
/-! ### replace, its receiver a name behind a written text -/
section
variable {X : Cx}
theorem pe_opC {op : Operator} {r : R2} {x : Str} {j : Nat} {f : Expr} {tf : TE} {c0 pos : Pos} (ho : OpR X (binaryOp op) r) (hb : PET X f tf) : PE X (.BinOp (.Constant (.str x) j c0) op f pos) (tOp r (tC (.str x)) tf) := by
  refine ⟨fun pins s σ H Q I h => ?_⟩
  refine wpAny_BinOp (Calls.Constant_str ?_)
  have J : Inv X pins σ H { s with toks := s.toks + 1 } := I.tok _
  exact thn (hb pins _ σ H _ (Nat.le_add_left 1 s.toks) J h) fun u s2 ⟨y, H2, I2, r2, q2⟩ => ho pins s2 σ H2 (.str x) y _ u Q I2 ⟨_, rfl⟩ r2 q2
def rMulS : R2 := fun x y H Q => ∃ i, x = .str i ∧ ∃ j, y = .int j ∧ 2 ≤ j ∧ j ≤ 1000 ∧ i.length ≤ 1000 ∧ Q (.str (Txt.mul i j)) H
theorem op_mul_str : OpR X (binaryOp .Mult) rMulS := by
  intro pins s σ H x y v u Q I rx ry h
  obtain ⟨i, rfl, j, rfl, j0, j1, hi, q⟩ := h
  obtain ⟨t, rfl⟩ := rx
  obtain ⟨t', rfl⟩ := ry
  refine SB.mul ⟨?_, fun _ _ => ?_, fun _ _ => ?_⟩ fun t' k => ⟨.str (Txt.mul i j), H, I.tok _, ⟨_, rfl⟩, q⟩
  · rw [Bool.or_eq_false_iff]
    exact ⟨decide_eq_false (by omega), decide_eq_false (by omega)⟩
  · have z : (1000 : Int) ≤ (2 ^ 63 - 1) / j := Int.le_ediv_of_mul_le (by omega) (by omega)
    omega
  · have z : i.length * j.toNat ≤ 1000 * 1000 := Nat.mul_le_mul hi (by omega)
    unfold PySem.Builtin.Str.tooLong
    refine decide_eq_false ?_
    have := sizeLine_eq
    omega
theorem r_replC {to : TE} {y z : Str} {σ : L2.St} {H : Hp} {Q : VK} : CwR.tReplC to y z σ H Q = to σ H fun v H1 => ∃ x, v = .str x ∧ x.length + (x.length + 1) * z.length ≤ 16777216 ∧ Q (.str (Txt.replace x y z)) H1 := propext Iff.rfl
end
/-! ### positional parameters given by name, in their order -/
section
variable {gd : Bool} {P : Program} {w : World} {K : PySem.W.Frag} {mg : Str → Option Value} {base : Heap} {k n : Nat} {f : Addr} {x qual : Str} {params : Arguments} {body : List Stmt} {scope : Scope} {dvs : List V} {kws : List (Str × V)} {fd : FuncData} {N ps ks : List Str} {sp : Sp}
theorem kbP (F : FunD K x qual params body scope [] kws f fd)
    (h : ∀ (kV doc pm : Value) (an : Option Addr) (cdv ct : Value) (us ws : List Value), us.length = n → ws.length = ks.length → bindArgs (PySem.W.fnOf x qual params body scope .none kV doc pm an cdv ct) ⟨us, ks.zip ws⟩ = pure (ps.zip (us ++ ws))) :
    KBn K fd ps n ks (fun us ws => us ++ ws) (fun vs zs => vs ++ zs) := by
  obtain ⟨oc, od, dV, kV, doc, pm, an, cdv, ct, osl, rfl, lk, hcd, hD, hK⟩ := F.ex
  rcases hD with ⟨_, rfl⟩ | ⟨e, _⟩
  · exact ⟨fun s us ws _ l1 l2 => BindsTo.of_looks fun M => PySem.W.Looks.of_pure (h kV doc pm an cdv ct us ws l1 l2), fun r rz => r.append rz⟩
  · exact absurd rfl e
theorem fn_keyP (F : FunD K x qual params body scope dvs kws f fd) (S : FnScope N ps scope) (len : ∀ vs H Q E, sp vs H Q E → vs.length = ps.length) (hn : n + ks.length = ps.length) (hb : KBn K fd ps n ks (fun us ws => us ++ ws) (fun vs zs => vs ++ zs))
    (hbody : ∀ (cdv : Value) (A : Around) (outer : List Env) (s : Shared) (H : Hp) (vs : List V) (Q : VK) (E : XK), Rm gd k (A.deeper (envOfC qual scope s.heap.objs.size f cdv)) → sp vs H Q E →
      ∃ t, PSs (cxOf (L2.CX P w) P w K mg base N qual scope f cdv A outer s H E) body t ∧ t { nx := fun _ H' => Q .non H', rt := Q } (start N vs) H) : Fn gd P w K mg base (k + 1) f ks sp :=
  (fn_key F S len hb hbody).imp fun vs H Q E h => by
    have l := len _ _ _ _ h
    exact ⟨vs.take n, vs.drop n, (List.take_append_drop n vs).symm, by rw [List.length_take]; omega, by rw [List.length_drop]; omega, by rw [List.take_append_drop]; exact h⟩
end
end FX

/-! Lambdas with one parameter that has a written int as its default. -/
namespace FX
open PySem PySem.Spec PyProof.Rows L2 FL FR
theorem r_methK {C : Addr} {m : Str} {n : Nat} {sp : Sp} {E : XK} {ta : TE} {t tk : TA} {σ : L2.St} {H : Hp} {Q : VK} : cMethK C m n sp E ta t tk σ H Q = (ta σ H fun x H1 => ∃ a dx fs, x = .ref a ∧ H1 a = some (.ins C dx fs) ∧ fs.lookup m = none ∧ t σ H1 fun vs H2 => tk σ H2 fun zs H3 => zs.length = n ∧ sp (x :: (vs ++ zs)) H3 Q E) := propext Iff.rfl
end FX
namespace FLd
open PySem PySem.Spec PyProof.Rows L2 FL FR FH FX He LamX
abbrev fnD (q : Str) (params : Arguments) (body : Expr) (scope : Scope) (cl : List (Str × Addr)) (pm cdv ct dv : Value) : FuncData := { PySem.W.kla_fn "<lambda>" q params body scope cl pm cdv ct with defaults := dv }
abbrev obD (q : Str) (params : Arguments) (body : Expr) (scope : Scope) (cl : List (Str × Addr)) (pm cdv ct dv : Value) : Obj := { cls := .type "function", data := .func (fnD q params body scope cl pm cdv ct dv) }
abbrev tupO (u : Value) : Obj := { cls := .type "tuple", data := .seq [u].toArray }
section
variable {M : Model} {A : Around} {E : Value → Shared → Prop} {s : Shared} {q : Str} {params : Arguments} {body : Expr} {scope : Scope} {env : Env} {c P : Addr} {ps : Array Value} {pos : Pos} {ln : Nat} {mg : Str → Option Value} {cl : List (Str × Addr)} {Q : Value → Shared → Prop} {dv : Value}
theorem tail_miss (k1 : closureFor scope env = pure cl) (k2 : env.globals = mainGlobals) (k3 : s.heap.Ns mainGlobals mg) (k4 : env.code = .ref c) (C : PySem.W.CodeHd s.heap c P) (k5 : s.heap.get? P = some { cls := .none, data := .fields ps }) (k6 : TriplesOk ps.toList)
    (k7 : codeAmong pos ps.toList = none) (k8 : mainGlobals ≠ P) (k9 : s.heap.BuiltinsAt mg P)
    (h : ∀ c' ctv h' tk, Heap.ExtBut P s.heap h' → s.heap.objs.size ≤ c' → c' < h'.objs.size → h'.CodeRec (.ref c') q → h'.get? P = some { cls := .none, data := .fields (ps ++ #[rawInt pos.line, rawInt pos.col, .ref c']) } →
      Q (.ref h'.objs.size) { s with heap := h'.push (obD q params body scope cl ((mg "__name__").getD .none) (.ref c') ctv dv), toks := tk }) : wpAny M A (makeTail "<lambda>" q params (.expr body) scope env dv .none none pos ln) Q E s := by
  obtain ⟨bm, ob, b1, b2, _, b3, b4, b5, b6, b7⟩ := k9
  unfold makeTail
  rw [k1, k2]
  refine wpAny_bind (wpAny_pure ?_)
  rcases cl with _ | ⟨z, r⟩
  · simp only [List.isEmpty_nil, if_true]
    refine wpAny_bind (wpAny_pure (wpAny_bind (wpAny_functionCodeX k4 (C.code k5 k6) (C.tab k5) k7 fun c' h' tk x g l _ rc tb _ => ?_)))
    have n1 := k3.extBut x k8
    exact wpAny_bind (wpAny_builtinsFor n1 b1 b2 (x _ _ b3 b4) b5 b6 b7 (wpAny_bind (wpAny_nsGet n1 (wpAny_bind (wpAny_pure (wpAny_newObj_type (h c' .none h' tk x g l rc tb.2) (by size_fits)))))))
  · simp only [List.isEmpty_cons, Bool.false_eq_true, if_false]
    refine wpAny_bind (wpAny_newTextTuple ?_)
    have up : ∀ {o : Obj} (b : Addr) (u : Obj), s.heap.get? b = some u → (s.heap.push o).get? b = some u := fun b u e => Heap.get?_push_of_some _ e
    have C2 : ∀ o : Obj, PySem.W.CodeHd (s.heap.push o) c P := fun o => C.keeps up
    refine wpAny_bind (wpAny_functionCodeX k4 ((C2 _).code (up _ _ k5) k6) ((C2 _).tab (up _ _ k5)) k7 fun c' h' tk x g l _ rc tb _ => ?_)
    have n1 := (k3.push _).extBut x k8
    have x2 : Heap.ExtBut P s.heap h' := fun b o n e => x b o n (up _ _ e)
    have g2 : s.heap.objs.size ≤ c' := Nat.le_trans (by rw [Heap.size_push]; omega) g
    exact wpAny_bind (wpAny_builtinsFor n1 b1 b2 (x2 _ _ b3 b4) b5 b6 b7 (wpAny_bind (wpAny_nsGet n1 (wpAny_bind (wpAny_pure (wpAny_newObj_type (h c' _ h' tk x2 g2 l rc tb.2) (by size_fits)))))))
theorem tail_hit {cv : Value} (k1 : closureFor scope env = pure cl) (k2 : env.globals = mainGlobals) (k3 : s.heap.Ns mainGlobals mg) (k4 : env.code = .ref c) (C : PySem.W.CodeHd s.heap c P) (k5 : s.heap.get? P = some { cls := .none, data := .fields ps }) (k6 : TriplesOk ps.toList)
    (k7 : codeAmong pos ps.toList = some cv) (k9 : s.heap.BuiltinsAt mg P)
    (h : ∀ (ctv : Value) (h' : Heap) (tk : Tok), (∀ b o, s.heap.get? b = some o → h'.get? b = some o) → s.heap.objs.size ≤ h'.objs.size →
      Q (.ref h'.objs.size) { s with heap := h'.push (obD q params body scope cl ((mg "__name__").getD .none) cv ctv dv), toks := tk }) : wpAny M A (makeTail "<lambda>" q params (.expr body) scope env dv .none none pos ln) Q E s := by
  obtain ⟨bm, ob, b1, b2, _, b3, b4, b5, b6, b7⟩ := k9
  unfold makeTail
  rw [k1, k2]
  refine wpAny_bind (wpAny_pure ?_)
  rcases cl with _ | ⟨z, r⟩
  · simp only [List.isEmpty_nil, if_true]
    refine wpAny_bind (wpAny_pure (wpAny_bind (wpAny_functionCode_hit k4 (C.code k5 k6) k7 ?_)))
    exact wpAny_bind (wpAny_builtinsFor k3 b1 b2 b4 b5 b6 b7 (wpAny_bind (wpAny_nsGet k3 (wpAny_bind (wpAny_pure (wpAny_newObj_type (h .none s.heap s.toks (fun _ _ e => e) (Nat.le_refl _)) (by size_fits)))))))
  · simp only [List.isEmpty_cons, Bool.false_eq_true, if_false]
    refine wpAny_bind (wpAny_newTextTuple ?_)
    have up : ∀ {o : Obj} (b : Addr) (u : Obj), s.heap.get? b = some u → (s.heap.push o).get? b = some u := fun b u e => Heap.get?_push_of_some _ e
    have C2 : ∀ o : Obj, PySem.W.CodeHd (s.heap.push o) c P := fun o => C.keeps up
    refine wpAny_bind (wpAny_functionCode_hit k4 ((C2 _).code (up _ _ k5) k6) k7 ?_)
    have sz : ∀ o : Obj, s.heap.objs.size ≤ (s.heap.push o).objs.size := fun o => by rw [Heap.size_push]; omega
    exact wpAny_bind (wpAny_builtinsFor (k3.push _) b1 b2 (up _ _ b4) b5 b6 b7 (wpAny_bind (wpAny_nsGet (k3.push _) (wpAny_bind (wpAny_pure (wpAny_newObj_type (h _ _ s.toks up (sz _)) (by size_fits)))))))
end
section
variable {X : Cx} {pins : List (Addr × Obj)} {σ : L2.St} {H : Hp} {s : Shared}
/-- the lambda is made, its default before it -/
theorem make_d {T : List (Addr × Str)} {c P : Addr} {params : Arguments} {body : Expr} {scope : Scope} {pos cp : Pos} {i : Int} {cj : Nat} {Q : Value → Shared → Prop} (I : Inv X pins σ H s) (TB : TabB X.base X.mg c P) (hcode : X.env.code = .ref c)
    (hm : (P, X.env.qual ++ "<lambda>") ∈ T) (hu : ∀ p ∈ T, p.1 = P → p.2 = X.env.qual ++ "<lambda>") (hT : Tabs T H) (hdef : defaultsOf params X.env = ([eval (.Constant (.int i) cj cp) X.env], [])) (hfree : ∀ y ∈ scope.names, y.2 = .free → ∃ c, X.env.cells.lookup y.1 = some c)
    (h : ∀ (f c' D : Addr) (u pm ctv : Value) (H1 : Hp) (s' : Shared), Inv X pins σ H1 s' → ExtN H H1 → Tabs T H1 →
      s'.heap.get? f = some (obD (X.env.qual ++ "<lambda>") params body scope (cloFrom X.env.cells scope.names []) pm (.ref c') ctv (.ref D)) → H1 f = none → f ∉ frs X.stack → s'.heap.get? D = some (tupO u) → H1 D = none → D ∉ frs X.stack → H1 c' = some (CodeO c' (X.env.qual ++ "<lambda>")) → Q (.ref f) s') :
    wpAny (model X.prog X.w) X.A (eval (.Lambda params body scope pos) X.env) Q X.xe s := by
  have step : ∀ (u : Value) (s1 : Shared), Inv X pins σ H s1 → wpAny (model X.prog X.w) X.A (makeFunction "<lambda>" (X.env.qual ++ "<lambda>") params (.expr body) scope X.env [u] [] [] pos pos.line) Q X.xe s1 := by
    intro u s1 I1
    rw [makeFunction_eq]
    simp only [List.zip_nil_right, List.filterMap_nil, List.isEmpty_nil, List.isEmpty_cons, Bool.false_eq_true, if_true, if_false, pure_bind]
    refine wpAny_bind (wpAny_newTextTuple ?_)
    obtain ⟨D, eD⟩ : ∃ D, D = s1.heap.objs.size := ⟨_, rfl⟩
    have J : Inv X pins σ H { s1 with heap := s1.heap.push (tupO u) } := I1.kept (t' := s1.toks) fun b o e => Heap.get?_push_of_some _ e
    have dat : (s1.heap.push (tupO u)).get? D = some (tupO u) := by rw [eD]; exact Heap.get?_push_size s1.heap rfl
    have dn : H D = none := I1.hok.fresh (by rw [eD]; exact Nat.le_refl _)
    have nofr : ∀ {s0 : Shared} (_ : Inv X pins σ H s0) (f : Addr), s0.heap.objs.size ≤ f → f ∉ frs X.stack := fun {s0} I0 f hf z => by
      rcases List.mem_cons.mp (I0.stkSub _ z) with e | e
      · have h1 := I0.lt
        rw [← e] at h1
        exact Nat.lt_irrefl _ (Nat.lt_of_lt_of_le h1 hf)
      · exact I0.nofs hf e
    have dfr : D ∉ frs X.stack := nofr I1 D (by rw [eD]; exact Nat.le_refl _)
    show wpAny _ _ (makeTail "<lambda>" (X.env.qual ++ "<lambda>") params (.expr body) scope X.env (.ref s1.heap.objs.size) .none none pos pos.line) _ _ { s1 with heap := s1.heap.push (tupO u) }
    rw [← eD]
    obtain ⟨s2, es⟩ : ∃ s2 : Shared, s2 = { s1 with heap := s1.heap.push (tupO u) } := ⟨_, rfl⟩
    have dat2 : s2.heap.get? D = some (tupO u) := by rw [es]; exact dat
    rw [← es] at J ⊢
    obtain ⟨ps, hP, ht, ha⟩ := hT _ hm
    have bP : s2.heap.BuiltinsAt X.mg P := TB.bm.keeps J.bk
    have hP' : s2.heap.get? P = some { cls := .none, data := .fields ps } := J.hok P _ hP
    cases hc : codeAmong pos ps.toList with
    | none =>
      refine tail_miss (mg := X.mg) (c := c) (P := P) (ps := ps) (closure_ok hfree) J.ok.glob (J.mod.glob.keeps J.bk) hcode (TB.code.keeps J.bk) hP' ht hc TB.gP bP fun c' ctv h' tk hx hge hlt hrec htb => ?_
      obtain ⟨c2, oc, vs, t, e2, hoc, hd, hv⟩ := hrec
      cases e2
      have hsz : s2.heap.objs.size ≤ h'.objs.size := Nat.le_trans hge (Nat.le_of_lt hlt)
      have nC : H c' = none := J.hok.fresh hge
      have dP : D ≠ P := fun e => by rw [e, hP'] at dat2; cases dat2
      have J1 := inv_table (t' := tk) (more := #[rawInt pos.line, rawInt pos.col, .ref c']) (h' := h'.push (obD (X.env.qual ++ "<lambda>") params body scope (cloFrom X.env.cells scope.names []) ((X.mg "__name__").getD .none) (.ref c') ctv (.ref D))) J hP
        (fun b o hb e => Heap.get?_push_of_some _ (hx b o hb e)) (Heap.get?_push_of_some _ htb) hge ⟨oc, vs, t, Heap.get?_push_of_some _ hoc, hd, hv⟩
      have hE : ExtN H (upd (upd H P (.tbl (ps ++ #[rawInt pos.line, rawInt pos.col, .ref c']))) c' (CodeO c' (X.env.qual ++ "<lambda>"))) := fun b o e n => by
        rw [upd_ne (ne_of_none e nC), upd_ne (fun z => n ps (Option.some.inj (e.symm.trans (by rw [z]; exact hP))))]
        exact e
      have eL : (ps ++ #[rawInt pos.line, rawInt pos.col, .ref c']).toList = ps.toList ++ [rawInt pos.line, rawInt pos.col, .ref c'] := by simp
      have dc : D ≠ c' := fun e => by
        have z := Heap.lt_size dat2
        rw [e] at z
        exact Nat.lt_irrefl _ (Nat.lt_of_lt_of_le z hge)
      refine h h'.objs.size c' D u ((X.mg "__name__").getD .none) ctv _ _ J1 hE (fun p hp => ?_) (Heap.get?_push_size _ rfl) ?_ (nofr J _ hsz) (Heap.get?_push_of_some _ (hx _ _ dP dat2)) (by rw [upd_ne dc, upd_ne dP]; exact dn) dfr upd_same
      · by_cases hb : p.1 = P
        · rw [hu p hp hb, hb]
          refine ⟨_, by rw [upd_ne (ne_of_none hP nC), upd_same], by rw [eL]; exact PySem.TriplesOk_snoc _ _ _ _ ht, fun p' cv hcv => ?_⟩
          rw [eL] at hcv
          rcases among_app _ ht hcv with z | z
          · obtain ⟨c0, e1, e2⟩ := ha p' cv z
            exact ⟨c0, e1, hE _ _ e2 codeO_ne⟩
          · exact ⟨c', z, upd_same⟩
        · obtain ⟨ps', a1, a2, a3⟩ := hT p hp
          refine ⟨ps', by rw [upd_ne (ne_of_none a1 nC), upd_ne hb]; exact a1, a2, fun p' cv hcv => ?_⟩
          obtain ⟨c0, e1, e2⟩ := a3 p' cv hcv
          exact ⟨c0, e1, hE _ _ e2 codeO_ne⟩
      · rw [upd_ne (Nat.ne_of_gt hlt), upd_ne (Nat.ne_of_gt (Nat.lt_of_lt_of_le (Heap.lt_size hP') hsz))]
        exact J.hok.fresh hsz
    | some cv =>
      obtain ⟨c', e, hco⟩ := ha pos cv hc
      subst e
      refine tail_hit (mg := X.mg) (c := c) (P := P) (ps := ps) (closure_ok hfree) J.ok.glob (J.mod.glob.keeps J.bk) hcode (TB.code.keeps J.bk) hP' ht hc bP fun ctv h' tk hx hsz => ?_
      have J1 : Inv X pins σ H { s2 with heap := h'.push (obD (X.env.qual ++ "<lambda>") params body scope (cloFrom X.env.cells scope.names []) ((X.mg "__name__").getD .none) (.ref c') ctv (.ref D)), toks := tk } := J.kept fun b o e => Heap.get?_push_of_some _ (hx b o e)
      exact h h'.objs.size c' D u ((X.mg "__name__").getD .none) ctv H _ J1 (ExtN.refl H) hT (Heap.get?_push_size _ rfl) (J.hok.fresh hsz) (nofr J _ hsz) (Heap.get?_push_of_some _ (hx _ _ dat2)) dn dfr hco
  rw [arm_eval_Lambda, hdef]
  show wpAny _ _ (do let dv ← evalAll [eval (.Constant (.int i) cj cp) X.env]; let kdv ← holding dv (evalAllOpt []); makeFunction "<lambda>" (X.env.qual ++ "<lambda>") params (.expr body) scope X.env dv kdv [] pos pos.line) _ _ s
  refine wpAny_bind (wpAny_bind (thn ((pe_int (X := X) (i := i) (j := cj) (pos := cp)).run pins s σ H (fun _ H1 => H1 = H) I rfl) fun u s1 ⟨v, H1, I1, rv, eH⟩ => ?_))
  rw [eH] at I1
  exact wpAny_bind (wpAny_holding (wpAny_pure (wpAny_pure (wpAny_bind (wpAny_holding (wpAny_pure (step u s1 I1)))))))
/-! ### its names: captured ones, globals, and a local that the def has not -/
structure LamD (N : List Str) (sc scope : Scope) : Prop where
  kind : scope.kind = .function
  co : scope.isCoroutine = false
  gen : scope.isGenerator = false
  own : ∀ y ∈ scope.names, y.2 ≠ .cell ∧ (y.2 = .local → y.1 ∉ N)
  free : ∀ y ∈ scope.names, y.2 = .free → sc.names.lookup y.1 = some .cell ∨ sc.names.lookup y.1 = some .free
def lamDB (N : List Str) (sc scope : Scope) : Bool :=
  decide (scope.kind = .function) && (!scope.isCoroutine && (!scope.isGenerator && scope.names.all fun y => !decide (y.2 = .cell) && ((!decide (y.2 = .local) || !N.contains y.1) && (!decide (y.2 = .free) || (decide (sc.names.lookup y.1 = some .cell) || decide (sc.names.lookup y.1 = some .free))))))
theorem lamD_by {N : List Str} {sc scope : Scope} (h : lamDB N sc scope = true) : LamD N sc scope := by
  obtain ⟨h1, h⟩ := ba h
  obtain ⟨h2, h⟩ := ba h
  obtain ⟨h3, h4⟩ := ba h
  have each : ∀ y ∈ scope.names, y.2 ≠ .cell ∧ (y.2 = .local → y.1 ∉ N) ∧ (y.2 = .free → sc.names.lookup y.1 = some .cell ∨ sc.names.lookup y.1 = some .free) := fun y hy => by
    obtain ⟨g1, g⟩ := ba (List.all_eq_true.mp h4 y hy)
    obtain ⟨g2, g3⟩ := ba g
    simp only [Bool.or_eq_true, Bool.not_eq_true', decide_eq_true_eq, decide_eq_false_iff_not] at g1 g2 g3
    refine ⟨g1, fun e => ?_, fun e => ?_⟩
    · rcases g2 with g2 | g2
      · exact absurd e g2
      · simpa using g2
    · rcases g3 with g3 | g3
      · exact absurd e g3
      · exact g3
  exact ⟨of_decide_eq_true h1, by simpa using h2, by simpa using h3, fun y hy => ⟨(each y hy).1, (each y hy).2.1⟩, fun y hy => (each y hy).2.2⟩
theorem LamD.has {scope : Scope} (L : LamD X.N X.env.scope scope) (ok : X.Ok) : ∀ y ∈ scope.names, y.2 = .free → ∃ c, X.env.cells.lookup y.1 = some c := fun y hy e => ok.has _ (L.free y hy e)
theorem start_d {A : Around} {outer : List Env} {E : XK} {scope : Scope} {f c' : Addr} {h₁ : Heap} {tk : Nat} {HZ : Hp} {s1 : Shared} {mL : Str → Option Value} (I : Inv X pins σ H s) (L : LamD X.N X.env.scope scope) (e0 : Env0 X.prog X.w X.K X.mg X.base A outer s1 HZ) (hd : A.handled = none)
    (un : Un (frs X.stack) [] H HZ s.heap s1.heap) (hns : h₁.Ns s1.heap.objs.size mL) (kp : ∀ b o, s1.heap.get? b = some o → h₁.get? b = some o) : Inv (lamCx X A outer s1 HZ E scope f c') [] σ HZ { s1 with heap := h₁, toks := tk } := by
  have hfree := L.has I.ok
  have cm : ∀ {y c}, (cloFrom X.env.cells scope.names []).lookup y = some c → X.env.cells.lookup y = some c := fun {y c} e => by
    rcases cloFrom_mem (PySem.mem_of_lookup e) with hm | ⟨h1, h2⟩
    · cases hm
    · obtain ⟨c1, hc⟩ := hfree _ h1 rfl
      have hc : X.env.cells.lookup y = some c1 := hc
      rw [hc, show c = c1 by rw [h2, hc] <;> rfl]
  have look : ∀ {y}, scope.names.lookup y = some .free → ∃ c, (cloFrom X.env.cells scope.names []).lookup y = some c := fun {y} hl => mem_lookup (cloFrom_has (cells := X.env.cells) (acc := []) (show (y, NameKind.free) ∈ scope.names from PySem.mem_of_lookup hl))
  have cellK : ∀ {c : Addr} {v : Option Value}, H c = none → s.heap.IsCell c v → h₁.IsCell c v := fun {c v} n ⟨o, ho, hd⟩ => let ⟨sl, z⟩ := un.any ho n (by simp); ⟨_, kp _ _ z, hd⟩
  have noA : ∀ b : Addr, b ∉ (lamCx X A outer s1 HZ E scope f c').ex := fun b z => absurd (show b ∈ ([] : List Addr) from z) (by simp)
  refine ⟨⟨e0.mod, L.kind, rfl, rfl, Nat.le_refl _, fun y z c e1 e2 => I.ok.inj y z c (cm e1) (cm e2), fun y hy => ?_, fun y c z _ => ?_, fun _ => hd, Around.frames_deeper e0.frames, .inr ⟨rfl, rfl⟩, fun b z => absurd z (noA b), e0.bs, e0.bsz, fun b _ _ => noA b,
      fun b z => absurd z (noA b), e0.funs, e0.frf⟩,
    rfl, e0.bare, Un.kept kp, ⟨_, hns, fun i y v e1 e2 e3 => ?_⟩, fun y c e => ?_, e0.hok.fresh (Nat.le_refl _), fun y c e => ?_, fun q hq => absurd (show q ∈ ([] : List (Addr × Obj)) ++ [] from hq) (by simp), e0.hok.kept kp, I.len⟩
  · rcases (show scope.names.lookup y = some .cell ∨ scope.names.lookup y = some .free from hy) with hy | hy
    · exact absurd rfl (L.own _ (PySem.mem_of_lookup hy)).1
    · exact look hy
  · cases (show false = true from z)
  · rcases (show Vis scope y from e3) with k | k | k
    · exact absurd (List.mem_of_getElem? (show X.N[i]? = some y from e1)) ((L.own _ (PySem.mem_of_lookup k)).2 rfl)
    · exact absurd rfl (L.own _ (PySem.mem_of_lookup k)).1
    · obtain ⟨m, hn, hl⟩ := I.loc
      obtain ⟨w', r, z⟩ := hl i y v e1 e2 ((L.free _ (PySem.mem_of_lookup k) rfl).elim (fun k => .inr (.inl k)) (fun k => .inr (.inr k)))
      obtain ⟨c2, h2⟩ := look k
      refine ⟨w', r, .inr ⟨.inr k, c2, h2, ?_⟩⟩
      have c1 := cm h2
      rcases z with ⟨k', _⟩ | ⟨_, c3, e', z⟩
      · have k' : X.env.scope.names.lookup y = some .local := k'
        rcases L.free _ (PySem.mem_of_lookup k) rfl with k2 | k2 <;> rw [show X.env.scope.names.lookup y = _ from k2] at k' <;> cases k'
      · rw [c1] at e'
        cases e'
        exact cellK (I.freeC y _ c1) z
  · obtain ⟨w', z⟩ := I.cell y c (cm e)
    exact ⟨w', cellK (I.freeC y c (cm e)) z⟩
  · obtain ⟨v, o, ho, hd⟩ := I.cell y c (cm e)
    exact un.free c o ho (I.freeC y c (cm e)) (by simp)
/-- what the call without arguments binds -/
def BindD (params : Arguments) (body : Expr) (scope : Scope) (x : Str) : Prop := ∀ (q : Str) (cl : List (Str × Addr)) (pm cv ctv u : Value) (D : Addr), ∃ k, bindArgs (fnD q params body scope cl pm cv ctv (.ref D)) ⟨[], []⟩ = seqItems? (.ref D) >>= k ∧ k (some [u].toArray) = pure [(x, u)]
theorem act_d {HZ : Hp} {s1 : Shared} {CXg : CXT} {Eg : XK} {Ng : List Str} {qg : Str} {sg : Scope} {g f c' D : Addr} {cdg pm ctv u : Value} {params : Arguments} {body : Expr} {scope : Scope} {k i : Nat} {a x : Str} {pn : List (Addr × Obj)} {xe : Value → Shared → Prop} {W : WX} {E : XK} {tb : TE} {p1 p2 : Pos}
    (I : Inv X pins σ H s) (L : LamD X.N X.env.scope scope) (hf : s.heap.get? f = some (obD (X.env.qual ++ "<lambda>") params body scope (cloFrom X.env.cells scope.names []) pm (.ref c') ctv (.ref D))) (hfn : H f = none) (hfr : f ∉ frs X.stack) (hD : s.heap.get? D = some (tupO u)) (hDn : H D = none) (hDr : D ∉ frs X.stack)
    (hbind : BindD params body scope x) (hloc : scope.names.lookup x = some .local)
    (tk : Takes ((cxOf CXg X.prog X.w X.K X.mg X.base Ng qg sg g cdg X.A X.stack s H Eg).tr pn xe) W) (hW : ∀ cls d σ' H', E cls d H' → W cls d σ' H') (hr : Room (k + 1) (X.A.deeper (envOfC qg sg s.heap.objs.size g cdg)))
    (hbody : ∀ (A : Around) (outer : List Env) (s : Shared) (H : Hp), Room k (A.deeper (lamEnv X scope s.heap.objs.size f c')) → PE (lamCx X A outer s H E scope f c') body tb)
    (hN : Ng[i]? = some a) (hv : Vis sg a) (hd : (a == ("__debug__" : Str)) = false := by decide) (hcd : (a == ("__classdict__" : Str)) = false := by decide) :
    PE ((cxOf CXg X.prog X.w X.K X.mg X.base Ng qg sg g cdg X.A X.stack s H Eg).tr pn xe) (.Call (.Name a p1) [] [] p2) (fun σZ HZ Q => σZ[i]? = some (some (.ref f)) ∧ HZ c' = some (CodeO c' (X.env.qual ++ "<lambda>")) ∧ tb σ HZ Q) := by
  refine ⟨fun pinsZ sZ σZ HZ Q IZ h => ?_⟩
  obtain ⟨hs, hc, ht⟩ := h
  refine wpAny_Call_Name_kw (thn ((pe_var (pos := p1) (i := i) hN hv hd hcd).run pinsZ sZ σZ HZ (fun v H1 => v = .ref f ∧ H1 = HZ) IZ ⟨.ref f, hs, rfl, rfl⟩) fun fu s1 ⟨v, H1, I1, r1, q1⟩ => ?_)
  obtain ⟨ev, eH⟩ := q1
  subst ev
  rw [eH] at I1
  obtain rfl : fu = Value.ref f := r1
  have of1 := I1.base.keep f _ hf hfn hfr (fun z => nomatch (show f ∈ ([] : List Addr) from z))
  have od1 := I1.base.keep D _ hD hDn hDr (fun z => nomatch (show D ∈ ([] : List Addr) from z))
  refine PySem.W.callWith_F0 ⟨_, _, _, _, of1⟩ ?_
  obtain ⟨⟨oc, vs, t, hoc, hdc, hvc⟩, _, _⟩ := I1.hok c' _ hc
  have rc : codeAny (model X.prog X.w) (X.A.deeper (envOfC qg sg s.heap.objs.size g cdg)) (.call (.ref f) ⟨[], []⟩) (CR (L2.CX X.prog X.w) (envOfC qg sg s.heap.objs.size g cdg :: X.stack) X.prog X.w HZ s1 Q E) s1 := by
    refine PySem.W.kla_callFunE hr.depth of1 rfl L.co L.gen rfl ⟨c', oc, vs, t, rfl, hoc, hdc, hvc⟩ ?_
    obtain ⟨kk, b1, b2⟩ := hbind (X.env.qual ++ "<lambda>") (cloFrom X.env.cells scope.names []) pm (.ref c') ctv u D
    rw [b1]
    refine wpAny_bind (wpAny_seqItems od1 rfl ?_)
    rw [b2]
    refine wpAny_pure (wpAny_newFunctionEnv (fun y hy => (L.own y hy).1) (fun y hy => by rw [List.mem_singleton.mp hy]; exact hloc) (fun h₁ hns hsb => ⟨I1.nolimit.fresh _ hsb, ?_⟩) L.kind)
    show codeAny _ _ (.expr body (lamEnv X scope s1.heap.objs.size f c')) _ _
    have kp : ∀ b o, s1.heap.get? b = some o → h₁.get? b = some o := fun b o e => hsb.extBut b o (Nat.ne_of_lt (Heap.lt_size e)) (Heap.get?_push_of_some _ e)
    have J := start_d (E := E) (f := f) (c' := c') (tk := s1.toks + ([(x, u)] : List (Str × Value)).length) I L I1.env0 hr.hd I1.base hns kp
    refine PySem.W.kla_codeExpr (wpAny_mono ((hbody _ _ s1 HZ (hr.deeper _)).run [] _ _ HZ Q J ht) (fun v s' hq => ?_) fun e s' hq => hq)
    obtain ⟨w', H', J', rv, q⟩ := hq
    exact ⟨w', H', J'.os, J'.bare, J'.base, J'.hok, rv, q⟩
  have hx : Passes (L2.CX X.prog X.w) ((cxOf CXg X.prog X.w X.K X.mg X.base Ng qg sg g cdg X.A X.stack s H Eg).tr pn xe) E := passes_call tk hW
  refine wpAny_call (codeAny_mono rc fun r s' hq => ?_)
  cases r with
  | error e => exact hx pinsZ σZ HZ s1 e s' I1 hq
  | ok fl =>
    cases fl with
    | ret u => exact I1.after hq
    | next => exact False.elim hq
    | brk => exact False.elim hq
    | cont => exact False.elim hq
end
/-- x(lambda y=i: body) -/
theorem pe_lamcallD {X : Cx} {T : List (Addr × Str)} {TT : (XK → Hp → VK → Prop) → Hp → VK → Prop} {x a y : Str} {g c P : Addr} {k : Nat} {pg : Arguments} {bg : List Stmt} {sg : Scope} {dV kV doc pm cdv ct oc : Value} {an od : Option Addr} {osl : Array (Option Value)} {Ng : List Str}
    {params : Arguments} {body : Expr} {scope : Scope} {t : XK → TE} {p lpos pos cp : Pos} {i : Int} {cj : Nat} (hg : Gl X x) (hm : X.mg x = some (.ref g)) (hk : PySem.W.keepIn X.K (.ref g) = true)
    (lk : X.K.lookup g = some ⟨oc, od, .func (PySem.W.fnOf x x pg bg sg dV kV doc pm an cdv ct), osl⟩) (hcg : PySem.W.codeIn X.K cdv x = true) (hb : L2.Binds X.K (PySem.W.fnOf x x pg bg sg dV kV doc pm an cdv ct) [a] []) (Sg : FnScope Ng [a] sg) (hNg : Ng[0]? = some a) (hva : Vis sg a)
    (hG : GivesTo X Ng x sg g cdv bg a (X.env.qual ++ "<lambda>") TT)
    (TB : TabB X.base X.mg c P) (hcode : X.env.code = .ref c) (hmT : (P, X.env.qual ++ "<lambda>") ∈ T) (hu : ∀ p ∈ T, p.1 = P → p.2 = X.env.qual ++ "<lambda>") (hr : Room (k + 2) X.A) (L : LamD X.N X.env.scope scope) (hdef : defaultsOf params X.env = ([eval (.Constant (.int i) cj cp) X.env], []))
    (hbind : BindD params body scope y) (hloc : scope.names.lookup y = some .local)
    (hbody : ∀ (A : Around) (outer : List Env) (s : Shared) (H : Hp) (E : XK) (f c' : Addr), Room k (A.deeper (lamEnv X scope s.heap.objs.size f c')) → PE (lamCx X A outer s H E scope f c') body (t E))
    (hdb : (x == ("__debug__" : Str)) = false := by decide) (hd : (a == ("__debug__" : Str)) = false := by decide) (hcd : (a == ("__classdict__" : Str)) = false := by decide) :
    PE X (.Call (.Name x p) [.Lambda params body scope lpos] [] pos) (tLam T TT t) := by
  refine ⟨fun pins s σ H Q I h => ?_⟩
  obtain ⟨hT, h⟩ := h
  refine wpAny_Call_Name_kw (ld_glob I hg hm ?_ hdb)
  refine PySem.W.callWith_K (h₀ := X.base) I.ok.mod.kin hk ?_ (by rfl) (by rfl)
  show wpAny _ _ (spliced ((false, eval (.Lambda params body scope lpos) X.env) :: backTo pos (starEach [] X.env))) _ _ s
  refine Calls.spliced_cons (make_d I TB hcode hmT hu hT hdef (L.has I.ok) fun f c' D u pm' ctv H1 s' I1 eN T1 hf hfn hfr hD hDn hDr hco => Calls.spliced_nil ⟨I1.kIn, ?_⟩)
  have rc : codeAny (model X.prog X.w) X.A (.call (.ref g) ⟨[.ref f], []⟩) (CR C8.CX0 X.stack X.prog X.w H1 s' Q C8.E0) s' := by
    refine run_ofS (N := Ng) (ps := [a]) (us := [.ref f]) (vs := [.ref f]) lk hcg Sg hr I1.env0 (hb s' [.ref f] I1.kIn rfl) (.cons rfl .nil) rfl fun hr' => ?_
    obtain ⟨t', ht', hq'⟩ := hG f c' s' H1 Q (fun E H' Q' => t E σ H' Q') (fun W pn xe E p1 p2 tk hW => act_d (HZ := H) (s1 := s) (i := 0) I1 L hf hfn hfr hD hDn hDr hbind hloc tk hW hr' (fun A outer s H hr2 => hbody A outer s H E f c' hr2) hNg hva hd hcd) hco (h H1 eN T1)
    exact ⟨t', ht'.nox, hq'⟩
  refine wpAny_call (codeAny_mono rc fun r s2 hq => ?_)
  cases r with
  | error e => exact (show False from hq).elim
  | ok fl =>
    cases fl with
    | ret u => exact I1.after hq
    | next => exact False.elim hq
    | brk => exact False.elim hq
    | cont => exact False.elim hq
end FLd

/-! == and != of two instances of one class with its own __eq__; a classmethod called with keywords. -/
namespace FX
open PySem PySem.Spec PyProof.Rows L2 FL FR He FH PySem.W PySem.Calls
section
variable {prog : Program} {w : World} {A : Around} {E : Value → Shared → Prop} {s : Shared} {K : Frag} {x y C f : Addr} {ox oy : Obj} {od od' : Option Obj}
theorem rc_same {op : CmpOp} {Q : Value → Shared → Prop} (hu : A.units < cLine) (I : InstAt s.heap x ox C od) (J : InstAt s.heap y oy C od')
    (one : wpAny (model prog w) A (tryCompare (.ref x) (cmpInfo op).2.1 (.ref y)) (fun r s' => ∃ v, r = some v ∧ Q v s') E s) : wpAny (model prog w) A (richCompare op (.ref x) (.ref y)) Q E s := by
  unfold richCompare
  simp only [oneThing_ref]
  refine wpAny_holding (wpAny_bind (wpAny_cRoomFor hu (wpAny_bind (I.type.here (wpAny_bind (J.type.here ?_))))))
  rw [show (Value.ref C != Value.ref C) = false from by simp]
  simp only [Bool.false_eq_true, if_false]
  refine wpAny_bind (wpAny_pure ?_)
  simp only [Bool.false_eq_true, if_false]
  refine wpAny_bind (wpAny_mono one (fun r s' z => ?_) fun _ _ e => e)
  obtain ⟨v, rfl, hq⟩ := z
  exact wpAny_pure hq
theorem try_eq {b : Value} {Q : Value → Shared → Prop} (X : K.In s.heap) (I : InstAt s.heap x ox C od) (hs : findIn K (.ref C) "__eq__" = some (some (.ref f))) (hf : isFn K (.ref f) = true)
    (h : wpAny (model prog w) A (call (.ref f) [.ref x, b]) (fun v s' => ∃ k, v = .bool k ∧ Q (.bool k) s') E s) : wpAny (model prog w) A (tryCompare (.ref x) "__eq__" b) (fun r s' => ∃ v, r = some v ∧ Q v s') E s := by
  unfold tryCompare
  refine wpAny_bind (ifBound_K X I hs hf (wpAny_mono h (fun v s' hv => ?_) fun _ _ e => e))
  obtain ⟨k, rfl, hq⟩ := hv
  exact wpAny_pure ⟨_, rfl, hq⟩
/-- what a class with its own __eq__ and object's __ne__ has -/
structure NeC (K : Frag) (C : Addr) : Prop where
  ne : findIn K (.ref C) "__ne__" = some (some (.builtin "object.__ne__"))
  ob : subIn K (.ref C) (.type "object") = some true
theorem obj_ne {b : Value} {Q : Fin → Shared → Prop} (X : K.In s.heap) (I : InstAt s.heap x ox C od) (hs : findIn K (.ref C) "__eq__" = some (some (.ref f))) (hf : isFn K (.ref f) = true) (hu : A.units < cLine)
    (h : wpAny (model prog w) A (call (.ref f) [.ref x, b]) (fun v s' => ∃ k, v = .bool k ∧ Q (.done (.ret (.bool (!k)))) s') E s) : wpAny (model prog w) A (Builtin.«object.__ne__» ⟨[.ref x, b], []⟩) Q E s := by
  obtain ⟨hp, g, d, t, os⟩ := s
  unfold Builtin.«object.__ne__»
  repeat (first
    | with_reducible refine wpAny_cRoomFor hu ?_
    | (refine wpAny_bind (m := callSpecialIfBound? (.ref x) (Str.ofString "__eq__") [b]) (ifBound_K X I hs hf (wpAny_mono h (fun r s' hr => by
          obtain ⟨k, rfl, hq⟩ := hr
          repeat (first | exact hq | exact wpAny_pure hq | exact wpAny_truthy_bool hq | (refine wpAny_bind (m := truthy (.bool _)) (wpAny_truthy_bool ?_)) | wp_step)) fun _ _ e => e)))
    | wp_step)
theorem try_ne {b : Value} {Q : Value → Shared → Prop} (c : NeC K C) (X : K.In s.heap) (I : InstAt s.heap x ox C od) (hs : findIn K (.ref C) "__eq__" = some (some (.ref f))) (hf : isFn K (.ref f) = true) (hu : A.units + 1 < cLine)
    (h : wpAny (model prog w) A.in1 (call (.ref f) [.ref x, b]) (fun v s' => ∃ k, v = .bool k ∧ Q (.bool (!k)) s') E s) : wpAny (model prog w) A (tryCompare (.ref x) "__ne__" b) (fun r s' => ∃ v, r = some v ∧ Q v s') E s := by
  have T0 := I.type (M := model prog w)
  have isB : Looks (model prog w) s.heap (isInstance (.ref x) (.type "object")) true := T0.andThen (looks_subIn X c.ob)
  have sl := PySem.F.cmp_object.ne
  unfold tryCompare
  have body : wpAny (model prog w) A (call (.builtin "object.__ne__") [.ref x, b]) (fun v s' => ∃ k, v = .bool k ∧ Q (.bool k) s') E s := by
    refine wpAny_call (codeAny_call_builtin sl.plain PySem.F.cmpEntry_ne (@check_slot (model prog w) _ _ s "object.__ne__" "object" "__ne__" (.ref x) [b] [] _ PySem.F.cmpKind_ne PySem.F.cmpSplit_ne isB (PySem.F.cmpArgs_ne _ _) ?_))
    refine obj_ne X I hs hf hu (wpAny_mono h (fun v s' hv => ?_) fun _ _ e => e)
    obtain ⟨k, rfl, hq⟩ := hv
    first
      | exact ⟨k, rfl, _, rfl, hq⟩
      | exact ⟨k, rfl, ⟨_, rfl, _, rfl, hq⟩⟩
  refine wpAny_bind ?_
  simp only [callSpecialIfBound?, bindSpecialIfBound?]
  refine wpAny_holding (wpAny_bind (wpAny_bind (wpAny_bind (T0.here ((looks_findIn X c.ne).here ?_)))))
  simp only [sl.bind]
  refine wpAny_bind (wpAny_askSetting (wpAny_ite ?_))
  split
  · refine wpAny_bind (wpAny_pure (wpAny_pure (wpAny_bind (wpAny_mono body (fun v s' hv => ?_) fun _ _ h' => h'))))
    obtain ⟨k, rfl, hq⟩ := hv
    exact wpAny_pure (wpAny_pure ⟨_, rfl, hq⟩)
  · refine wpAny_tryCatch (wpAny_bind (wpAny_pure (wpAny_pure (wpAny_bind (wpAny_mono body (fun v s' hv => ?_) fun _ _ h' => h')))))
    obtain ⟨k, rfl, hq⟩ := hv
    exact wpAny_pure (wpAny_pure ⟨_, rfl, hq⟩)
end
def fNe (x : Str) : Ft := fun K => eqO (findIn K (.ref (ga K x)) "__ne__") (some (some (.builtin "object.__ne__"))) && decide (subIn K (.ref (ga K x)) (.type "object") = some true)
theorem ne_ok {K : Frag} {x : Str} (c : fNe x K = true) : NeC K (ga K x) := let ⟨c1, c2⟩ := ba c; ⟨eqO_ok c1, of_decide_eq_true c2⟩
section
variable {gd : Bool} {X : Cx} {k : Nat} {f g C p : Addr} {mc : Value} {sp : Sp} {E : XK} {m : Str} {o : Expr} {ta : TE} {tk : TA} {kws : List Keyword} {ks : List Str} {pos apos : Pos}
theorem own_at {pins : List (Addr × Obj)} {σ : L2.St} {H : Hp} {s : Shared} {us : List Value} {vs : List V} {Q : VK} {R : Value → Shared → Prop} (F : Fn gd X.prog X.w X.K X.mg X.base k f [] sp) (hr : Rm gd k X.A) (hx : Passes (L2.CX X.prog X.w) X E)
    (I : Inv X pins σ H s) (r : Vals vs us) (h : sp vs H Q E) (hR : ∀ v H' u s', Inv X pins σ H' s' → RelV v u → Q v H' → R u s') : wpAny (model X.prog X.w) X.A (call (.ref f) us) R X.xe s :=
  wpAny_mono (run_f0 F hr hx I r h) (fun u s' ⟨v, H', I', rv, q⟩ => hR v H' u s' I' rv q) fun _ _ z => z
/-- x == y, x != y of two instances of C -/
def rCmpO (neg : Bool) (C : Addr) (sp : Sp) (E : XK) : R2 := fun x y H Q => ∃ a, x = .ref a ∧ ∃ b, y = .ref b ∧ ∃ dx fs, H a = some (.ins C dx fs) ∧ ∃ dy gs, H b = some (.ins C dy gs) ∧ sp [.ref a, .ref b] H (fun v H2 => ∃ k, v = .bl k ∧ Q (.bl (neg.xor k)) H2) E
theorem op_eqO (hm : Meth X.K C "__eq__" f) (F : Fn gd X.prog X.w X.K X.mg X.base k f [] sp) (hr : Rm gd k X.A) (hu : X.A.units < cLine) (hx : Passes (L2.CX X.prog X.w) X E) : OpR X (compareOp .Eq) (rCmpO false C sp E) := by
  intro pins s σ H x y v u Q I rx ry h
  obtain ⟨a, rfl, b, rfl, dx, fs, ha, dy, gs, hb, q⟩ := h
  obtain rfl : v = Value.ref a := rx
  obtain rfl : u = Value.ref b := ry
  obtain ⟨mA, O, _, _, _, _⟩ := ins_get I.hok ha
  obtain ⟨od, J, _⟩ := O.look
  obtain ⟨mB, O', _, _, _, _⟩ := ins_get I.hok hb
  obtain ⟨od', J', _⟩ := O'.look
  unfold compareOp
  refine rc_same hu J J' (try_eq I.kIn J hm.at_ hm.fn (own_at (vs := [V.ref a, V.ref b]) F hr hx I (.cons rfl (.cons rfl .nil)) q fun w H' z s' I' rw' q' => ?_))
  obtain ⟨k, rfl, q2⟩ := q'
  obtain rfl : z = Value.bool k := rw'
  exact ⟨k, rfl, .bl k, H', I', rfl, by rw [Bool.false_xor] at q2; exact q2⟩
theorem op_neO (c : NeC X.K C) (hm : Meth X.K C "__eq__" f) (F : Fn gd X.prog X.w X.K X.mg X.base k f [] sp) (hr : Rm gd (k + 1) X.A) (hu : X.A.units + 1 < cLine) (hx : Passes (L2.CX X.prog X.w) X E) : OpR X (compareOp .NotEq) (rCmpO true C sp E) := by
  intro pins s σ H x y v u Q I rx ry h
  obtain ⟨a, rfl, b, rfl, dx, fs, ha, dy, gs, hb, q⟩ := h
  obtain rfl : v = Value.ref a := rx
  obtain rfl : u = Value.ref b := ry
  obtain ⟨mA, O, _, _, _, _⟩ := ins_get I.hok ha
  obtain ⟨od, J, _⟩ := O.look
  obtain ⟨mB, O', _, _, _, _⟩ := ins_get I.hok hb
  obtain ⟨od', J', _⟩ := O'.look
  unfold compareOp
  refine rc_same (Nat.lt_of_succ_lt hu) J J' (try_ne c I.kIn J hm.at_ hm.fn hu (own_in1 (vs := [V.ref a, V.ref b]) F hr hx I (.cons rfl (.cons rfl .nil)) q fun w H' z s' I' rw' q' => ?_))
  obtain ⟨k, rfl, q2⟩ := q'
  obtain rfl : z = Value.bool k := rw'
  exact ⟨k, rfl, .bl (!k), H', I', rfl, by rw [Bool.true_xor] at q2; exact q2⟩
/-- C.m(k = e, ..), m a classmethod -/
def cCmK (C : Addr) (n : Nat) (sp : Sp) (E : XK) (ta : TE) (tk : TA) : TE := fun σ H Q => ta σ H fun x H1 => x = .ref C ∧ tk σ H1 fun zs H2 => zs.length = n ∧ sp (.ref C :: zs) H2 Q E
theorem r_cmK {n : Nat} {σ : L2.St} {H : Hp} {Q : VK} : cCmK C n sp E ta tk σ H Q = ta σ H fun x H1 => x = .ref C ∧ tk σ H1 fun zs H2 => zs.length = n ∧ sp (.ref C :: zs) H2 Q E := propext Iff.rfl
theorem run_cmK {pins : List (Addr × Obj)} {σ : L2.St} {H : Hp} {s : Shared} {q : Addr} {Q : VK} {ws : List Value} {zs : List V} (F : Fn gd X.prog X.w X.K X.mg X.base k g ks sp) (hr : Rm gd k X.A) (hx : Passes (L2.CX X.prog X.w) X E) (I : Inv X ((q, PySem.W.methodObj (.ref g) (.ref C)) :: pins) σ H s)
    (r : Vals zs ws) (l : zs.length = ks.length) (h : sp (.ref C :: zs) H Q E) : wpAny (model X.prog X.w) X.A (call (.ref q) [] (ks.zip ws)) (EP X pins σ Q) X.xe s := by
  have z : wpAny (model X.prog X.w) X.A (call (.ref q) [] (ks.zip ws)) (EP X ((q, PySem.W.methodObj (.ref g) (.ref C)) :: pins) σ Q) X.xe s := by
    refine wpAny_call (PySem.W.method_call (ClX.pin_at I) (codeAny_mono (F X.A X.stack s H [.ref C] ws [.ref C] zs Q E hr I.env0 (.cons rfl .nil) r l h) fun r' s' hq => ?_))
    cases r' with
    | error er => exact hx _ σ H s er s' I hq
    | ok fl =>
      cases fl with
      | ret u => exact I.after hq
      | next => exact False.elim hq
      | brk => exact False.elim hq
      | cont => exact False.elim hq
  exact thn z fun _ _ y => ClX.unpinE y
theorem pe_cmK0 {pl : Sem Bool} (he : PE X o ta) (r : ClX.CRead X.K C mc) (c : ClX.CMet X.K C mc m p g) (F : Fn gd X.prog X.w X.K X.mg X.base k g ks sp) (hr : Rm gd k X.A) (hx : Passes (L2.CX X.prog X.w) X E) (hkw : PK X kws tk)
    (hall : (backToKw pos (keywordEach kws X.env)).all (·.1.isSome) = true := by rfl) (hks : (backToKw pos (keywordEach kws X.env)).filterMap (·.1) = ks := by rfl)
    (hpl : ((backTo pos (starEach [] X.env)).any (·.1) || (backToKw pos (keywordEach kws X.env)).any (·.1.isNone)) = false := by rfl)
    (ht : eval (.Call (.Attribute o m apos) [] kws pos) X.env = (do
      let ov ← eval o X.env
      standAt apos.atName
      let (f, first) ← holding [ov] (getMethod ov m pl)
      callWith pos f first (backTo pos (starEach [] X.env)) (backToKw pos (keywordEach kws X.env))) := by rfl) :
    PE X (.Call (.Attribute o m apos) [] kws pos) (cCmK C ks.length sp E ta tk) := by
  refine ⟨fun pins s σ H Q I h => ?_⟩
  refine PySem.W.methodCall_KW (pl := pl) (thn (he.run pins s σ H _ I h) fun u s1 ⟨x, H1, I1, rx, ex, q⟩ => ?_) ht
  subst ex
  obtain rfl : u = Value.ref C := rx
  refine ClX.getmethcm_ok I1 r c fun s2 I2 => ?_
  refine PySem.W.callWith_of hpl (PySem.W.keeps_M (self := .ref C) c.fi) (evalArgs_kw2_nil hall ?_)
  refine thn (hkw.run pos _ s2 σ H1 _ I2 q) fun ws s3 ⟨zs, H2, I3, rz, l, q2⟩ => ⟨⟨ClX.pin_at I3, I3.kIn⟩, ?_⟩
  rw [hks]
  exact run_cmK F hr hx I3 rz l q2
end
/-! ### tuple * k -/
def rRepTN : R2 := fun x y H Q => ∃ l, x = .ref l ∧ ∃ k, y = .int k ∧ ∃ xs, H l = some (.tup xs) ∧ xs ≠ [] ∧ 2 ≤ k ∧ k ≤ 1000 ∧ xs.length ≤ 1000 ∧ ∀ p H2, IsNew H p (.tup (List.replicate k.toNat xs).flatten) H2 → Q (.ref p) H2
theorem op_repTn {X : Cx} : OpR X (binaryOp .Mult) rRepTN := OpR.mono op_repT fun x y H Q ⟨l, e1, k, e2, xs, h, h0, h1, h2, h3, q⟩ => ⟨l, k, xs, e1, e2, SqT.of h, h0, h1, h2, h3, fun p n => q p _ ⟨n, rfl⟩⟩
end FX

namespace FLG
open PySem PySem.Spec PyProof.Rows L2 FL FH FR FX FE FLm He TL
def top (i : Nat) : Stmt := PySem.Challenge.pw_filelayer_k03_path_strings_read.main.body.getD i (.Pass ⟨0, 0, 0, 0⟩)
abbrev s_law_next : Stmt := top 19
abbrev N_law_next : List Str := ["_law_source_here", "_law_many", "_law_found", "_law_primes", "_law_prime"]
theorem sc_law_next : FnScope N_law_next ["_law_source_here", "_law_many"] (defScope s_law_next) := ⟨rfl, rfl, rfl, by decide +kernel, rfl, by decide +kernel, by decide +kernel⟩
def d_law_next : DX := ⟨aG "_law_next", "_law_next", "_law_next", s_law_next, [], []⟩
theorem b_law_next {K : PySem.W.Frag} {fd : FuncData} (F : FunX K d_law_next fd) : Binds K fd ["_law_source_here", "_law_many"] [] := FunD.bindsN F fun _ _ _ _ _ _ us hl => match us, hl with | [_, _], _ => rfl
abbrev s_law_source : Stmt := top 18
abbrev N_law_source : List Str := ["_law_script", "_law_k", "_law_cell"]
theorem sc_law_source : FnScope N_law_source ["_law_script", "_law_k"] (defScope s_law_source) := ⟨rfl, rfl, rfl, by decide +kernel, rfl, by decide +kernel, by decide +kernel⟩
def d_law_source : DX := ⟨aG "_law_source", "_law_source", "_law_source", s_law_source, [], []⟩
theorem b_law_source {K : PySem.W.Frag} {fd : FuncData} (F : FunX K d_law_source fd) : Binds K fd ["_law_script", "_law_k"] [] := FunD.bindsN F fun _ _ _ _ _ _ us hl => match us, hl with | [_, _], _ => rfl
abbrev s_law_pick : Stmt := top 20
abbrev N_law_pick : List Str := ["_law_source_here", "_law_items"]
theorem sc_law_pick : FnScope N_law_pick ["_law_source_here", "_law_items"] (defScope s_law_pick) := ⟨rfl, rfl, rfl, by decide +kernel, rfl, by decide +kernel, by decide +kernel⟩
def d_law_pick : DX := ⟨aG "_law_pick", "_law_pick", "_law_pick", s_law_pick, [], []⟩
theorem b_law_pick {K : PySem.W.Frag} {fd : FuncData} (F : FunX K d_law_pick fd) : Binds K fd ["_law_source_here", "_law_items"] [] := FunD.bindsN F fun _ _ _ _ _ _ us hl => match us, hl with | [_, _], _ => rfl
abbrev s_BadName_init : Stmt := inClass (top 4) 0
abbrev N_BadName_init : List Str := ["self", "reason"]
theorem sc_BadName_init : FnScope N_BadName_init ["self", "reason"] (defScope s_BadName_init) := ⟨rfl, rfl, rfl, by decide +kernel, rfl, by decide +kernel, by decide +kernel⟩
def d_BadName_init : DX := ⟨aM "BadName" "__init__", "__init__", "BadName.__init__", s_BadName_init, [], []⟩
theorem b_BadName_init {K : PySem.W.Frag} {fd : FuncData} (F : FunX K d_BadName_init fd) : Binds K fd ["self", "reason"] [] := FunD.bindsN F fun _ _ _ _ _ _ us hl => match us, hl with | [_, _], _ => rfl
abbrev s_BadPath_init : Stmt := inClass (top 3) 0
abbrev N_BadPath_init : List Str := ["self", "reason"]
theorem sc_BadPath_init : FnScope N_BadPath_init ["self", "reason"] (defScope s_BadPath_init) := ⟨rfl, rfl, rfl, by decide +kernel, rfl, by decide +kernel, by decide +kernel⟩
def d_BadPath_init : DX := ⟨aM "BadPath" "__init__", "__init__", "BadPath.__init__", s_BadPath_init, [], []⟩
theorem b_BadPath_init {K : PySem.W.Frag} {fd : FuncData} (F : FunX K d_BadPath_init fd) : Binds K fd ["self", "reason"] [] := FunD.bindsN F fun _ _ _ _ _ _ us hl => match us, hl with | [_, _], _ => rfl
abbrev s_BadNumber_init : Stmt := inClass (top 5) 0
abbrev N_BadNumber_init : List Str := ["self", "reason"]
theorem sc_BadNumber_init : FnScope N_BadNumber_init ["self", "reason"] (defScope s_BadNumber_init) := ⟨rfl, rfl, rfl, by decide +kernel, rfl, by decide +kernel, by decide +kernel⟩
def d_BadNumber_init : DX := ⟨aM "BadNumber" "__init__", "__init__", "BadNumber.__init__", s_BadNumber_init, [], []⟩
theorem b_BadNumber_init {K : PySem.W.Frag} {fd : FuncData} (F : FunX K d_BadNumber_init fd) : Binds K fd ["self", "reason"] [] := FunD.bindsN F fun _ _ _ _ _ _ us hl => match us, hl with | [_, _], _ => rfl
abbrev s_is_name : Stmt := top 12
abbrev N_is_name : List Str := ["value", "sign"]
theorem sc_is_name : FnScope N_is_name ["value"] (defScope s_is_name) := ⟨rfl, rfl, rfl, by decide +kernel, rfl, by decide +kernel, by decide +kernel⟩
def d_is_name : DX := ⟨aG "is_name", "is_name", "is_name", s_is_name, [], []⟩
theorem b_is_name {K : PySem.W.Frag} {fd : FuncData} (F : FunX K d_is_name fd) : Binds K fd ["value"] [] := FunD.bindsN F fun _ _ _ _ _ _ us hl => match us, hl with | [_], _ => rfl
abbrev s_Path_init : Stmt := inClass (top 16) 1
abbrev N_Path_init : List Str := ["self", "names", "name"]
theorem sc_Path_init : FnScope N_Path_init ["self", "names"] (defScope s_Path_init) := ⟨rfl, rfl, rfl, by decide +kernel, rfl, by decide +kernel, by decide +kernel⟩
def d_Path_init : DX := ⟨aM "Path" "__init__", "__init__", "Path.__init__", s_Path_init, [], []⟩
theorem v_Path_init {K : PySem.W.Frag} {fd : FuncData} (F : FunX K d_Path_init fd) : ∀ us rest : List Value, us.length = 1 → bindArgs fd ⟨us ++ rest, []⟩ = (newTuple rest >>= fun t => pure ((["self"] : List Str).zip us ++ [(("names" : Str), t)])) := by
  obtain ⟨oc, od, dV, kV, doc, pm, an, cdv, ct, osl, e, lk, hcd, hD, hK⟩ := F.ex
  subst e
  have hz : dV = .none := by
    rcases hD with ⟨_, z⟩ | ⟨e, _⟩
    · exact z
    · exact absurd rfl e
  subst hz
  intro us rest hl
  match us, hl with
  | [_], _ => cases rest with
    | nil => rfl
    | cons y ys => rfl
abbrev s_Path_name : Stmt := inClass (top 16) 5
abbrev N_Path_name : List Str := ["self"]
theorem sc_Path_name : FnScope N_Path_name ["self"] (defScope s_Path_name) := ⟨rfl, rfl, rfl, by decide +kernel, rfl, by decide +kernel, by decide +kernel⟩
def d_Path_name : DX := ⟨aP "Path" "name", "name", "Path.name", s_Path_name, [], []⟩
theorem b_Path_name {K : PySem.W.Frag} {fd : FuncData} (F : FunX K d_Path_name fd) : Binds K fd ["self"] [] := FunD.bindsN F fun _ _ _ _ _ _ us hl => match us, hl with | [_], _ => rfl
abbrev s_Path_len : Stmt := inClass (top 16) 10
abbrev N_Path_len : List Str := ["self"]
theorem sc_Path_len : FnScope N_Path_len ["self"] (defScope s_Path_len) := ⟨rfl, rfl, rfl, by decide +kernel, rfl, by decide +kernel, by decide +kernel⟩
def d_Path_len : DX := ⟨aM "Path" "__len__", "__len__", "Path.__len__", s_Path_len, [], []⟩
theorem b_Path_len {K : PySem.W.Frag} {fd : FuncData} (F : FunX K d_Path_len fd) : Binds K fd ["self"] [] := FunD.bindsN F fun _ _ _ _ _ _ us hl => match us, hl with | [_], _ => rfl
abbrev s_law_good_name : Stmt := top 21
abbrev N_law_good_name : List Str := ["_law_source_here", "_law_some"]
theorem sc_law_good_name : FnScope N_law_good_name ["_law_source_here"] (defScope s_law_good_name) := ⟨rfl, rfl, rfl, by decide +kernel, rfl, by decide +kernel, by decide +kernel⟩
def d_law_good_name : DX := ⟨aG "_law_good_name", "_law_good_name", "_law_good_name", s_law_good_name, [], []⟩
theorem b_law_good_name {K : PySem.W.Frag} {fd : FuncData} (F : FunX K d_law_good_name fd) : Binds K fd ["_law_source_here"] [] := FunD.bindsN F fun _ _ _ _ _ _ us hl => match us, hl with | [_], _ => rfl
abbrev s_law_invalid : Stmt := top 22
abbrev N_law_invalid : List Str := ["_law_call_so", "_law_caught", "error", "_law_kinds", "_law_word", "_law_is_so"]
theorem sc_law_invalid : FnScope N_law_invalid ["_law_call_so"] (defScope s_law_invalid) := ⟨rfl, rfl, rfl, by decide +kernel, rfl, by decide +kernel, by decide +kernel⟩
def d_law_invalid : DX := ⟨aG "_law_invalid", "_law_invalid", "_law_invalid", s_law_invalid, [], []⟩
theorem b_law_invalid {K : PySem.W.Frag} {fd : FuncData} (F : FunX K d_law_invalid fd) : Binds K fd ["_law_call_so"] [] := FunD.bindsN F fun _ _ _ _ _ _ us hl => match us, hl with | [_], _ => rfl
abbrev s_names_after : Stmt := top 14
abbrev N_names_after : List Str := ["before", "string", "found", "part"]
theorem sc_names_after : FnScope N_names_after ["before", "string"] (defScope s_names_after) := ⟨rfl, rfl, rfl, by decide +kernel, rfl, by decide +kernel, by decide +kernel⟩
def d_names_after : DX := ⟨aG "names_after", "names_after", "names_after", s_names_after, [], []⟩
theorem b_names_after {K : PySem.W.Frag} {fd : FuncData} (F : FunX K d_names_after fd) : Binds K fd ["before", "string"] [] := FunD.bindsN F fun _ _ _ _ _ _ us hl => match us, hl with | [_, _], _ => rfl
abbrev s_names_in : Stmt := top 15
abbrev N_names_in : List Str := ["value", "found"]
theorem sc_names_in : FnScope N_names_in ["value"] (defScope s_names_in) := ⟨rfl, rfl, rfl, by decide +kernel, rfl, by decide +kernel, by decide +kernel⟩
def d_names_in : DX := ⟨aG "names_in", "names_in", "names_in", s_names_in, [], []⟩
theorem b_names_in {K : PySem.W.Frag} {fd : FuncData} (F : FunX K d_names_in fd) : Binds K fd ["value"] [] := FunD.bindsN F fun _ _ _ _ _ _ us hl => match us, hl with | [_], _ => rfl
abbrev s_Path_parse : Stmt := inClass (top 16) 2
abbrev N_Path_parse : List Str := ["cls", "string", "names"]
theorem sc_Path_parse : FnScope N_Path_parse ["cls", "string"] (defScope s_Path_parse) := ⟨rfl, rfl, rfl, by decide +kernel, rfl, by decide +kernel, by decide +kernel⟩
def d_Path_parse : DX := ⟨aC "Path" "parse", "parse", "Path.parse", s_Path_parse, [], []⟩
theorem b_Path_parse {K : PySem.W.Frag} {fd : FuncData} (F : FunX K d_Path_parse fd) : Binds K fd ["cls", "string"] [] := FunD.bindsN F fun _ _ _ _ _ _ us hl => match us, hl with | [_, _], _ => rfl
theorem kb_Path_parse_string {K : PySem.W.Frag} {fd : FuncData} (F : FunX K d_Path_parse fd) : KBn K fd ["cls", "string"] 1 ["string"] (fun us ws => us ++ ws) (fun vs zs => vs ++ zs) := kbP F fun _ _ _ _ _ _ us ws h1 h2 => match us, h1, ws, h2 with | [_], _, [_], _ => rfl
abbrev s_Path_eq : Stmt := inClass (top 16) 9
abbrev N_Path_eq : List Str := ["self", "other"]
theorem sc_Path_eq : FnScope N_Path_eq ["self", "other"] (defScope s_Path_eq) := ⟨rfl, rfl, rfl, by decide +kernel, rfl, by decide +kernel, by decide +kernel⟩
def d_Path_eq : DX := ⟨aM "Path" "__eq__", "__eq__", "Path.__eq__", s_Path_eq, [], []⟩
theorem b_Path_eq {K : PySem.W.Frag} {fd : FuncData} (F : FunX K d_Path_eq fd) : Binds K fd ["self", "other"] [] := FunD.bindsN F fun _ _ _ _ _ _ us hl => match us, hl with | [_, _], _ => rfl
abbrev s_law_part : Stmt := top 23
abbrev N_law_part : List Str := ["_law_source_here", "_law_way"]
theorem sc_law_part : FnScope N_law_part ["_law_source_here"] (defScope s_law_part) := ⟨rfl, rfl, rfl, by decide +kernel, rfl, by decide +kernel, by decide +kernel⟩
def d_law_part : DX := ⟨aG "_law_part", "_law_part", "_law_part", s_law_part, [], []⟩
theorem b_law_part {K : PySem.W.Frag} {fd : FuncData} (F : FunX K d_law_part fd) : Binds K fd ["_law_source_here"] [] := FunD.bindsN F fun _ _ _ _ _ _ us hl => match us, hl with | [_], _ => rfl
abbrev s_law_names_of : Stmt := top 24
abbrev N_law_names_of : List Str := ["_law_parts", "_law_found", "_law_part_here"]
theorem sc_law_names_of : FnScope N_law_names_of ["_law_parts"] (defScope s_law_names_of) := ⟨rfl, rfl, rfl, by decide +kernel, rfl, by decide +kernel, by decide +kernel⟩
def d_law_names_of : DX := ⟨aG "_law_names_of", "_law_names_of", "_law_names_of", s_law_names_of, [], []⟩
theorem b_law_names_of {K : PySem.W.Frag} {fd : FuncData} (F : FunX K d_law_names_of fd) : Binds K fd ["_law_parts"] [] := FunD.bindsN F fun _ _ _ _ _ _ us hl => match us, hl with | [_], _ => rfl
abbrev s_law_right : Stmt := top 25
abbrev N_law_right : List Str := ["_law_source_here", "_law_parts", "_law_is_good", "_law_spoilt", "_law_row", "_law_due", "_law_one", "_law_written", "_law_turn"]
theorem sc_law_right : FnScope N_law_right ["_law_source_here"] (defScope s_law_right) := ⟨rfl, rfl, rfl, by decide +kernel, rfl, by decide +kernel, by decide +kernel⟩
def d_law_right : DX := ⟨aG "_law_right", "_law_right", "_law_right", s_law_right, [], []⟩
theorem b_law_right {K : PySem.W.Frag} {fd : FuncData} (F : FunX K d_law_right fd) : Binds K fd ["_law_source_here"] [] := FunD.bindsN F fun _ _ _ _ _ _ us hl => match us, hl with | [_], _ => rfl
abbrev s_law : Stmt := top 26
abbrev N_law : List Str := ["_law_script", "_law_k", "_law_source_here", "_law_turn", "_law_told", "_law_odd"]
theorem sc_law : FnScope N_law ["_law_script"] (defScope s_law) := ⟨rfl, rfl, rfl, by decide +kernel, rfl, by decide +kernel, by decide +kernel⟩
def d_law : DX := ⟨aG "law", "law", "law", s_law, [], []⟩
theorem b_law {K : PySem.W.Frag} {fd : FuncData} (F : FunX K d_law fd) : Binds K fd ["_law_script"] [] := FunD.bindsN F fun _ _ _ _ _ _ us hl => match us, hl with | [_], _ => rfl
def fa : List Ft := [fFree "len",
 fOx famV "BadName" "reason",
 fBase "Invalid" "__init__" famV.initId,
 fGlo "Invalid",
 fOx famV "BadPath" "reason",
 fOx famV "BadNumber" "reason",
 fFree "all",
 fStr "NAME_SIGNS" "abcdefghijklmnopqrstuvwxyz0123456789_-.",
 fInt "MAX_NAME" (12),
 fFree "isinstance",
 fFree "str",
 fInt "MAX_NAMES" (12),
 fGlo "BadPath",
 fGlo "BadName",
 fCls "Path",
 fNo "Path" "names",
 fExcC "BadName",
 fExm "BadName" "Invalid" true,
 fKit (fun K => .ref (ga K "BadName")) (fun K => .ref (ga K "BadName")) true,
 fKit (fun K => .ref (ga K "BadName")) (fun K => .ref (ga K "BadPath")) false,
 fKit (fun K => .ref (ga K "BadName")) (fun K => .ref (ga K "BadNumber")) false,
 fExcC "BadPath",
 fExm "BadPath" "Invalid" true,
 fKit (fun K => .ref (ga K "BadPath")) (fun K => .ref (ga K "BadName")) false,
 fKit (fun K => .ref (ga K "BadPath")) (fun K => .ref (ga K "BadPath")) true,
 fKit (fun K => .ref (ga K "BadPath")) (fun K => .ref (ga K "BadNumber")) false,
 fExcC "BadNumber",
 fExm "BadNumber" "Invalid" true,
 fKit (fun K => .ref (ga K "BadNumber")) (fun K => .ref (ga K "BadName")) false,
 fKit (fun K => .ref (ga K "BadNumber")) (fun K => .ref (ga K "BadPath")) false,
 fKit (fun K => .ref (ga K "BadNumber")) (fun K => .ref (ga K "BadNumber")) true,
 fGlo "BadNumber",
 fInt "MAX_PATH" (200),
 fIns "Path",
 fKit (fun K => .ref (ga K "Path")) (fun _ => .type "str") false,
 fMkr "Path",
 fGlo "Path",
 fKit (fun K => .ref (ga K "Path")) (fun K => .ref (ga K "Path")) true,
 fRead "Path",
 fCMet "Path" "parse",
 fNe "Path",
 fMeth "Path" "__eq__",
 fFree "repr",
 fFree "tuple",
 fFree "range",
 fMeth "Path" "__len__",
 fFree "max",
 fFree "min",
 fGlo "_law_next",
 fGlo "_law_source",
 fGlo "_law_pick",
 fGlo "is_name",
 fGlo "_law_good_name",
 fGlo "_law_invalid",
 fGlo "names_after",
 fGlo "names_in",
 fGlo "_law_part",
 fGlo "_law_names_of",
 fGlo "_law_right",
 fGlo "law"]
def fn : List DX := [d_law_next, d_law_source, d_law_pick, d_BadName_init, d_BadPath_init, d_BadNumber_init, d_is_name, d_Path_init, d_Path_name, d_Path_len, d_law_good_name, d_law_invalid, d_names_after, d_names_in, d_Path_parse, d_Path_eq, d_law_part, d_law_names_of, d_law_right, d_law]
def lm : List DX := [d_law_right, d_law]
section
variable {K : PySem.W.Frag} {mg : Str → Option Value} (T : Tx fa fn K mg)
include T
theorem F_law_next : ∃ fd, FunX K d_law_next fd := T.c.def_ 0 (d := d_law_next) rfl
theorem k_law_next : PySem.W.keepIn K (.ref ((aG "_law_next") K)) = true := let ⟨_, F⟩ := F_law_next T; F.kp
theorem g_law_next : mg "_law_next" = some (.ref ((aG "_law_next") K)) := (T.glo (T.c.fact 48 (f := fGlo "_law_next") rfl))
theorem F_law_source : ∃ fd, FunX K d_law_source fd := T.c.def_ 1 (d := d_law_source) rfl
theorem k_law_source : PySem.W.keepIn K (.ref ((aG "_law_source") K)) = true := let ⟨_, F⟩ := F_law_source T; F.kp
theorem g_law_source : mg "_law_source" = some (.ref ((aG "_law_source") K)) := (T.glo (T.c.fact 49 (f := fGlo "_law_source") rfl))
theorem F_law_pick : ∃ fd, FunX K d_law_pick fd := T.c.def_ 2 (d := d_law_pick) rfl
theorem k_law_pick : PySem.W.keepIn K (.ref ((aG "_law_pick") K)) = true := let ⟨_, F⟩ := F_law_pick T; F.kp
theorem g_law_pick : mg "_law_pick" = some (.ref ((aG "_law_pick") K)) := (T.glo (T.c.fact 50 (f := fGlo "_law_pick") rfl))
theorem F_BadName_init : ∃ fd, FunX K d_BadName_init fd := T.c.def_ 3 (d := d_BadName_init) rfl
theorem k_BadName_init : PySem.W.keepIn K (.ref ((aM "BadName" "__init__") K)) = true := let ⟨_, F⟩ := F_BadName_init T; F.kp
theorem F_BadPath_init : ∃ fd, FunX K d_BadPath_init fd := T.c.def_ 4 (d := d_BadPath_init) rfl
theorem k_BadPath_init : PySem.W.keepIn K (.ref ((aM "BadPath" "__init__") K)) = true := let ⟨_, F⟩ := F_BadPath_init T; F.kp
theorem F_BadNumber_init : ∃ fd, FunX K d_BadNumber_init fd := T.c.def_ 5 (d := d_BadNumber_init) rfl
theorem k_BadNumber_init : PySem.W.keepIn K (.ref ((aM "BadNumber" "__init__") K)) = true := let ⟨_, F⟩ := F_BadNumber_init T; F.kp
theorem F_is_name : ∃ fd, FunX K d_is_name fd := T.c.def_ 6 (d := d_is_name) rfl
theorem k_is_name : PySem.W.keepIn K (.ref ((aG "is_name") K)) = true := let ⟨_, F⟩ := F_is_name T; F.kp
theorem g_is_name : mg "is_name" = some (.ref ((aG "is_name") K)) := (T.glo (T.c.fact 51 (f := fGlo "is_name") rfl))
theorem F_Path_init : ∃ fd, FunX K d_Path_init fd := T.c.def_ 7 (d := d_Path_init) rfl
theorem k_Path_init : PySem.W.keepIn K (.ref ((aM "Path" "__init__") K)) = true := let ⟨_, F⟩ := F_Path_init T; F.kp
theorem F_Path_name : ∃ fd, FunX K d_Path_name fd := T.c.def_ 8 (d := d_Path_name) rfl
theorem k_Path_name : PySem.W.keepIn K (.ref ((aP "Path" "name") K)) = true := let ⟨_, F⟩ := F_Path_name T; F.kp
theorem F_Path_len : ∃ fd, FunX K d_Path_len fd := T.c.def_ 9 (d := d_Path_len) rfl
theorem k_Path_len : PySem.W.keepIn K (.ref ((aM "Path" "__len__") K)) = true := let ⟨_, F⟩ := F_Path_len T; F.kp
theorem F_law_good_name : ∃ fd, FunX K d_law_good_name fd := T.c.def_ 10 (d := d_law_good_name) rfl
theorem k_law_good_name : PySem.W.keepIn K (.ref ((aG "_law_good_name") K)) = true := let ⟨_, F⟩ := F_law_good_name T; F.kp
theorem g_law_good_name : mg "_law_good_name" = some (.ref ((aG "_law_good_name") K)) := (T.glo (T.c.fact 52 (f := fGlo "_law_good_name") rfl))
theorem F_law_invalid : ∃ fd, FunX K d_law_invalid fd := T.c.def_ 11 (d := d_law_invalid) rfl
theorem k_law_invalid : PySem.W.keepIn K (.ref ((aG "_law_invalid") K)) = true := let ⟨_, F⟩ := F_law_invalid T; F.kp
theorem g_law_invalid : mg "_law_invalid" = some (.ref ((aG "_law_invalid") K)) := (T.glo (T.c.fact 53 (f := fGlo "_law_invalid") rfl))
theorem F_names_after : ∃ fd, FunX K d_names_after fd := T.c.def_ 12 (d := d_names_after) rfl
theorem k_names_after : PySem.W.keepIn K (.ref ((aG "names_after") K)) = true := let ⟨_, F⟩ := F_names_after T; F.kp
theorem g_names_after : mg "names_after" = some (.ref ((aG "names_after") K)) := (T.glo (T.c.fact 54 (f := fGlo "names_after") rfl))
theorem F_names_in : ∃ fd, FunX K d_names_in fd := T.c.def_ 13 (d := d_names_in) rfl
theorem k_names_in : PySem.W.keepIn K (.ref ((aG "names_in") K)) = true := let ⟨_, F⟩ := F_names_in T; F.kp
theorem g_names_in : mg "names_in" = some (.ref ((aG "names_in") K)) := (T.glo (T.c.fact 55 (f := fGlo "names_in") rfl))
theorem F_Path_parse : ∃ fd, FunX K d_Path_parse fd := T.c.def_ 14 (d := d_Path_parse) rfl
theorem k_Path_parse : PySem.W.keepIn K (.ref ((aC "Path" "parse") K)) = true := let ⟨_, F⟩ := F_Path_parse T; F.kp
theorem F_Path_eq : ∃ fd, FunX K d_Path_eq fd := T.c.def_ 15 (d := d_Path_eq) rfl
theorem k_Path_eq : PySem.W.keepIn K (.ref ((aM "Path" "__eq__") K)) = true := let ⟨_, F⟩ := F_Path_eq T; F.kp
theorem F_law_part : ∃ fd, FunX K d_law_part fd := T.c.def_ 16 (d := d_law_part) rfl
theorem k_law_part : PySem.W.keepIn K (.ref ((aG "_law_part") K)) = true := let ⟨_, F⟩ := F_law_part T; F.kp
theorem g_law_part : mg "_law_part" = some (.ref ((aG "_law_part") K)) := (T.glo (T.c.fact 56 (f := fGlo "_law_part") rfl))
theorem F_law_names_of : ∃ fd, FunX K d_law_names_of fd := T.c.def_ 17 (d := d_law_names_of) rfl
theorem k_law_names_of : PySem.W.keepIn K (.ref ((aG "_law_names_of") K)) = true := let ⟨_, F⟩ := F_law_names_of T; F.kp
theorem g_law_names_of : mg "_law_names_of" = some (.ref ((aG "_law_names_of") K)) := (T.glo (T.c.fact 57 (f := fGlo "_law_names_of") rfl))
theorem F_law_right : ∃ fd, FunX K d_law_right fd := T.c.def_ 18 (d := d_law_right) rfl
theorem k_law_right : PySem.W.keepIn K (.ref ((aG "_law_right") K)) = true := let ⟨_, F⟩ := F_law_right T; F.kp
theorem g_law_right : mg "_law_right" = some (.ref ((aG "_law_right") K)) := (T.glo (T.c.fact 58 (f := fGlo "_law_right") rfl))
theorem F_law : ∃ fd, FunX K d_law fd := T.c.def_ 19 (d := d_law) rfl
theorem k_law : PySem.W.keepIn K (.ref ((aG "law") K)) = true := let ⟨_, F⟩ := F_law T; F.kp
theorem g_law : mg "law" = some (.ref ((aG "law") K)) := (T.glo (T.c.fact 59 (f := fGlo "law") rfl))
end

section
variable {gd : Bool} {P : Program} {w : World} {K : PySem.W.Frag} {mg : Str → Option Value} {base : Heap}

/-- a source of draws at a: [cell, count, many] -/
def Src (H : Hp) (a : Addr) (j : Int) : Prop := ∃ c d : Int, H a = some (.lst [.int c, .int j, .int d]) ∧ 0 ≤ j
def spNext : Sp := fun vs H Q _ => ∃ (a : Addr) (m j : Int), vs = [.ref a, .int m] ∧ 0 < m ∧ m < 536870912 ∧ Src H a j ∧ j < 1099511627776 ∧
  ∀ (r j' : Int) (H' : Hp), 0 ≤ r → r < m → j ≤ j' → j' ≤ j + 1 → Oth a H H' → Src H' a j' → Q (.int r) H'
theorem prime_at : ∀ i : Nat, i < 11 → ∃ p : Int, ([2147483647, 2147483629, 2147483587, 2147483579, 2147483563, 2147483549, 2147483543, 2147483497, 2147483489, 2147483477, 2147483423] : List Int)[i]? = some p ∧ 0 < p ∧ p < 2147483648 := by
  intro i hi
  match i, hi with
  | 0, _ | 1, _ | 2, _ | 3, _ | 4, _ | 5, _ | 6, _ | 7, _ | 8, _ | 9, _ | 10, _ => exact ⟨_, rfl, by decide, by decide⟩
theorem ok_law_next (T : Tx fa fn K mg) : Fn gd P w K mg base 1 (aG "_law_next" K) [] spNext := by
  obtain ⟨fd, F⟩ := F_law_next T
  refine fn_all F sc_law_next (fun vs H Q E h => ?_) (b_law_next F) (fun cdv A outer s H vs Q E hr h => ⟨_, (pss_cons (ps_if (pt_cmpR op_gt (pe_ix ix_lh (pv 0) pe_int (fun _ _ => rfl)) pe_int (nomark _))
 (pss_cons (ps_set (i := 2) sc_law_next.nd rfl (Or.inl rfl) (pe_op op_mod (pe_ix ix_lh (pv 0) pe_int (fun _ _ => rfl)) (pv 1)))
 (pss_cons (ps_asg (pe_op op_fdiv (pe_ix ix_lh (pv 0) pe_int (fun _ _ => rfl)) (pv 1)) (pg_sub (pv 0) pe_int set_list))
 (pss_one (ps_ret (pv 2)))))
 pss_nil)
 (pss_cons (ps_asg (pe_op op_add (pe_ix ix_lh (pv 0) pe_int (fun _ _ => rfl)) pe_int) (pg_sub (pv 0) pe_int set_list))
 (pss_cons (ps_set (i := 3) sc_law_next.nd rfl (Or.inl rfl) (pe_lst (pa_cons pe_int (pa_cons pe_int (pa_cons pe_int (pa_cons pe_int (pa_cons pe_int (pa_cons pe_int (pa_cons pe_int (pa_cons pe_int pa_nil))))))))))
 (pss_cons (ps_set (i := 4) sc_law_next.nd rfl (Or.inl rfl) (pe_ix ix_lh (pe_op op_cat_n (pv 3) (pe_lst (pa_cons pe_int (pa_cons pe_int (pa_cons pe_int pa_nil))))) (pe_op op_mod (pe_ix ix_lh (pv 0) pe_int (fun _ _ => rfl)) pe_int) (fun _ _ => rfl)))
 (pss_one (ps_ret (pe_op op_mod (pe_op op_fdiv (pe_op op_mod (pe_op op_pow (pe_op op_add (pe_op op_add (pe_op op_mod (pe_ix ix_lh (pv 0) pe_int (fun _ _ => rfl)) (pv 4)) (pe_op op_mul pe_int (pe_ix ix_lh (pv 0) pe_int (fun _ _ => rfl)))) pe_int) pe_int) (pv 4)) pe_int) (pv 1)))))))), ?_⟩)
  · first | (obtain ⟨_, e, _⟩ := h; subst e; rfl) | (obtain ⟨_, _, e, _⟩ := h; subst e; rfl) | (obtain ⟨_, _, _, e, _⟩ := h; subst e; rfl) | (obtain ⟨_, _, _, _, e, _⟩ := h; subst e; rfl) | (obtain ⟨_, _, _, _, _, e, _⟩ := h; subst e; rfl) | (obtain ⟨_, _, _, _, _, _, e, _⟩ := h; subst e; rfl) | (obtain ⟨_, _, _, _, _, _, _, e, _⟩ := h; subst e; rfl) | (obtain ⟨_, _, _, _, _, _, _, _, e, _⟩ := h; subst e; rfl) | (obtain ⟨_, _, _, _, _, _, _, _, _, e, _⟩ := h; subst e; rfl) | (obtain ⟨_, _, _, _, _, _, _, _, _, _, e, _⟩ := h; subst e; rfl) | (obtain ⟨_, _, _, _, _, _, _, _, _, _, _, e, _⟩ := h; subst e; rfl)
  obtain ⟨a, m, j, rfl, m0, m1, ⟨c, d, hs, j0⟩, j1, q⟩ := h
  try simp only [cxK, r_lam, r_dnew, r_err, r_base, r_serr, r_var, r_c, r_seq, r_next, r_break, r_cont, r_drop, r_ret, r_retN, r_if, r_ife, r_asg, r_name, r_op, r_un, r_nil, r_cons, r_lst2, r_tup2, r_lc, r_for, r_ilist, r_itup, r_istr, r_irng1, r_irng2, r_ienum, r_ienumS, wipe, r_cb, r_test, r_b, r_not, r_notV, r_andV, r_orV, r_isN, r_notN, r_m1, r_m0, r_fld, sFld, putF, r_par, r_sub, r_gtup, r_gnil, r_gcons, r_sl, r_nopart, r_part, r_bm, r_bm0, r_chain, r_call, r_callK, r_meth, r_prop, r_make, r_and, r_or, andT_t, andT_f, orT_t, orT_f, ifK_t, ifK_f, ifE_t, ifE_f, andK_t, andK_f, orK_t, orK_f, L2.start, List.map_cons, List.map_nil, List.length_cons, List.length_nil, List.replicate_succ, List.replicate_zero, List.cons_append, List.nil_append, List.getElem?_cons_succ, List.getElem?_cons_zero, List.set_cons_succ, List.set_cons_zero, Nat.reduceAdd, Nat.reduceSub, Nat.zero_add, decide_true, decide_false, Bool.not_true, Bool.not_false, if_true, if_false, rEq, rNe, scal_ii, scal_ss, scal_bb, scal_is, scal_si, scal_ns, scal_ni, scal_in, scal_sn, scal_nn, rI, rI0, rU, rIxLH, rIxTH, rLenH, rLenTH, rSetL, rCatN, rTupOfN, rLstOfN, rSlLN, rSlTN, CDiv, CPow, CMul, CDivW, rNeNil, rLenO, rSplitN, rRepN, r_replC, rMulS, r_methK, rRepTN, r_cmK, rCmpO, Bool.false_xor, Bool.true_xor, r_starT, r_starL, r_cm, r_cval, selK_t, selK_f, rAppend, rIsK, reduceCtorEq, upd_same, at0, at1, at2, at3, at4, at5, at6, at7, at8, at9, at10, at11, at12, at13, ix3_0, ix3_1, ix3_2, V.int.injEq, V.bl.injEq, V.str.injEq, V.ref.injEq, Option.some.injEq, HO.lst.injEq, HO.tup.injEq, HO.ins.injEq, List.cons.injEq, and_true, true_and, exists_eq_left, exists_eq_left', exists_and_left, exists_eq', exists_eq, and_assoc, N_law_next, hs]
  by_cases hd : 0 < d
  · try simp only [cxK, r_lam, r_dnew, r_err, r_base, r_serr, r_var, r_c, r_seq, r_next, r_break, r_cont, r_drop, r_ret, r_retN, r_if, r_ife, r_asg, r_name, r_op, r_un, r_nil, r_cons, r_lst2, r_tup2, r_lc, r_for, r_ilist, r_itup, r_istr, r_irng1, r_irng2, r_ienum, r_ienumS, wipe, r_cb, r_test, r_b, r_not, r_notV, r_andV, r_orV, r_isN, r_notN, r_m1, r_m0, r_fld, sFld, putF, r_par, r_sub, r_gtup, r_gnil, r_gcons, r_sl, r_nopart, r_part, r_bm, r_bm0, r_chain, r_call, r_callK, r_meth, r_prop, r_make, r_and, r_or, andT_t, andT_f, orT_t, orT_f, ifK_t, ifK_f, ifE_t, ifE_f, andK_t, andK_f, orK_t, orK_f, L2.start, List.map_cons, List.map_nil, List.length_cons, List.length_nil, List.replicate_succ, List.replicate_zero, List.cons_append, List.nil_append, List.getElem?_cons_succ, List.getElem?_cons_zero, List.set_cons_succ, List.set_cons_zero, Nat.reduceAdd, Nat.reduceSub, Nat.zero_add, decide_true, decide_false, Bool.not_true, Bool.not_false, if_true, if_false, rEq, rNe, scal_ii, scal_ss, scal_bb, scal_is, scal_si, scal_ns, scal_ni, scal_in, scal_sn, scal_nn, rI, rI0, rU, rIxLH, rIxTH, rLenH, rLenTH, rSetL, rCatN, rTupOfN, rLstOfN, rSlLN, rSlTN, CDiv, CPow, CMul, CDivW, rNeNil, rLenO, rSplitN, rRepN, r_replC, rMulS, r_methK, rRepTN, r_cmK, rCmpO, Bool.false_xor, Bool.true_xor, r_starT, r_starL, r_cm, r_cval, selK_t, selK_f, rAppend, rIsK, reduceCtorEq, upd_same, at0, at1, at2, at3, at4, at5, at6, at7, at8, at9, at10, at11, at12, at13, ix3_0, ix3_1, ix3_2, V.int.injEq, V.bl.injEq, V.str.injEq, V.ref.injEq, Option.some.injEq, HO.lst.injEq, HO.tup.injEq, HO.ins.injEq, List.cons.injEq, and_true, true_and, exists_eq_left, exists_eq_left', exists_and_left, exists_eq', exists_eq, and_assoc, N_law_next, hd, hs]
    refine ⟨m0, m0, by omega, ?_⟩
    exact q _ j _ (Int.emod_nonneg _ (by omega)) (Int.emod_lt_of_pos _ m0) (Int.le_refl _) (by omega) Oth.refl.set ⟨c, d / m, upd_same, j0⟩
  · try simp only [cxK, r_lam, r_dnew, r_err, r_base, r_serr, r_var, r_c, r_seq, r_next, r_break, r_cont, r_drop, r_ret, r_retN, r_if, r_ife, r_asg, r_name, r_op, r_un, r_nil, r_cons, r_lst2, r_tup2, r_lc, r_for, r_ilist, r_itup, r_istr, r_irng1, r_irng2, r_ienum, r_ienumS, wipe, r_cb, r_test, r_b, r_not, r_notV, r_andV, r_orV, r_isN, r_notN, r_m1, r_m0, r_fld, sFld, putF, r_par, r_sub, r_gtup, r_gnil, r_gcons, r_sl, r_nopart, r_part, r_bm, r_bm0, r_chain, r_call, r_callK, r_meth, r_prop, r_make, r_and, r_or, andT_t, andT_f, orT_t, orT_f, ifK_t, ifK_f, ifE_t, ifE_f, andK_t, andK_f, orK_t, orK_f, L2.start, List.map_cons, List.map_nil, List.length_cons, List.length_nil, List.replicate_succ, List.replicate_zero, List.cons_append, List.nil_append, List.getElem?_cons_succ, List.getElem?_cons_zero, List.set_cons_succ, List.set_cons_zero, Nat.reduceAdd, Nat.reduceSub, Nat.zero_add, decide_true, decide_false, Bool.not_true, Bool.not_false, if_true, if_false, rEq, rNe, scal_ii, scal_ss, scal_bb, scal_is, scal_si, scal_ns, scal_ni, scal_in, scal_sn, scal_nn, rI, rI0, rU, rIxLH, rIxTH, rLenH, rLenTH, rSetL, rCatN, rTupOfN, rLstOfN, rSlLN, rSlTN, CDiv, CPow, CMul, CDivW, rNeNil, rLenO, rSplitN, rRepN, r_replC, rMulS, r_methK, rRepTN, r_cmK, rCmpO, Bool.false_xor, Bool.true_xor, r_starT, r_starL, r_cm, r_cval, selK_t, selK_f, rAppend, rIsK, reduceCtorEq, upd_same, at0, at1, at2, at3, at4, at5, at6, at7, at8, at9, at10, at11, at12, at13, ix3_0, ix3_1, ix3_2, V.int.injEq, V.bl.injEq, V.str.injEq, V.ref.injEq, Option.some.injEq, HO.lst.injEq, HO.tup.injEq, HO.ins.injEq, List.cons.injEq, and_true, true_and, exists_eq_left, exists_eq_left', exists_and_left, exists_eq', exists_eq, and_assoc, N_law_next, hd, hs]
    refine ⟨fits (by decide), fun p H1 n1 => ⟨fits (by decide), fun r H2 n2 => ?_⟩⟩
    have hs2 := n2.old (n1.old (o := _) (b := a) upd_same)
    have hp2 := n2.old n1.at_
    have hr2 := n2.at_
    try simp only [cxK, r_lam, r_dnew, r_err, r_base, r_serr, r_var, r_c, r_seq, r_next, r_break, r_cont, r_drop, r_ret, r_retN, r_if, r_ife, r_asg, r_name, r_op, r_un, r_nil, r_cons, r_lst2, r_tup2, r_lc, r_for, r_ilist, r_itup, r_istr, r_irng1, r_irng2, r_ienum, r_ienumS, wipe, r_cb, r_test, r_b, r_not, r_notV, r_andV, r_orV, r_isN, r_notN, r_m1, r_m0, r_fld, sFld, putF, r_par, r_sub, r_gtup, r_gnil, r_gcons, r_sl, r_nopart, r_part, r_bm, r_bm0, r_chain, r_call, r_callK, r_meth, r_prop, r_make, r_and, r_or, andT_t, andT_f, orT_t, orT_f, ifK_t, ifK_f, ifE_t, ifE_f, andK_t, andK_f, orK_t, orK_f, L2.start, List.map_cons, List.map_nil, List.length_cons, List.length_nil, List.replicate_succ, List.replicate_zero, List.cons_append, List.nil_append, List.getElem?_cons_succ, List.getElem?_cons_zero, List.set_cons_succ, List.set_cons_zero, Nat.reduceAdd, Nat.reduceSub, Nat.zero_add, decide_true, decide_false, Bool.not_true, Bool.not_false, if_true, if_false, rEq, rNe, scal_ii, scal_ss, scal_bb, scal_is, scal_si, scal_ns, scal_ni, scal_in, scal_sn, scal_nn, rI, rI0, rU, rIxLH, rIxTH, rLenH, rLenTH, rSetL, rCatN, rTupOfN, rLstOfN, rSlLN, rSlTN, CDiv, CPow, CMul, CDivW, rNeNil, rLenO, rSplitN, rRepN, r_replC, rMulS, r_methK, rRepTN, r_cmK, rCmpO, Bool.false_xor, Bool.true_xor, r_starT, r_starL, r_cm, r_cval, selK_t, selK_f, rAppend, rIsK, reduceCtorEq, upd_same, at0, at1, at2, at3, at4, at5, at6, at7, at8, at9, at10, at11, at12, at13, ix3_0, ix3_1, ix3_2, V.int.injEq, V.bl.injEq, V.str.injEq, V.ref.injEq, Option.some.injEq, HO.lst.injEq, HO.tup.injEq, HO.ins.injEq, List.cons.injEq, and_true, true_and, exists_eq_left, exists_eq_left', exists_and_left, exists_eq', exists_eq, and_assoc, N_law_next, hs2, hp2, hr2]
    refine ⟨fits (by decide), fun t H3 n3 => ?_⟩
    have hs3 := n3.old hs2
    obtain ⟨p, e1, e2, e3⟩ := prime_at ((j + 1) % 11).toNat (by omega)
    have e4 := (atI_nat (xs := ([2147483647, 2147483629, 2147483587, 2147483579, 2147483563, 2147483549, 2147483543, 2147483497, 2147483489, 2147483477, 2147483423] : List Int).map V.int) (j := ((j + 1) % 11).toNat) (v := .int p) (by rw [List.getElem?_map, e1]; rfl))
    have e5 : ((((j + 1) % 11).toNat : Nat) : Int) = (j + 1) % 11 := by omega
    rw [e5] at e4
    simp only [List.map_cons, List.map_nil] at e4
    have ht3 := n3.at_
    try simp only [cxK, r_lam, r_dnew, r_err, r_base, r_serr, r_var, r_c, r_seq, r_next, r_break, r_cont, r_drop, r_ret, r_retN, r_if, r_ife, r_asg, r_name, r_op, r_un, r_nil, r_cons, r_lst2, r_tup2, r_lc, r_for, r_ilist, r_itup, r_istr, r_irng1, r_irng2, r_ienum, r_ienumS, wipe, r_cb, r_test, r_b, r_not, r_notV, r_andV, r_orV, r_isN, r_notN, r_m1, r_m0, r_fld, sFld, putF, r_par, r_sub, r_gtup, r_gnil, r_gcons, r_sl, r_nopart, r_part, r_bm, r_bm0, r_chain, r_call, r_callK, r_meth, r_prop, r_make, r_and, r_or, andT_t, andT_f, orT_t, orT_f, ifK_t, ifK_f, ifE_t, ifE_f, andK_t, andK_f, orK_t, orK_f, L2.start, List.map_cons, List.map_nil, List.length_cons, List.length_nil, List.replicate_succ, List.replicate_zero, List.cons_append, List.nil_append, List.getElem?_cons_succ, List.getElem?_cons_zero, List.set_cons_succ, List.set_cons_zero, Nat.reduceAdd, Nat.reduceSub, Nat.zero_add, decide_true, decide_false, Bool.not_true, Bool.not_false, if_true, if_false, rEq, rNe, scal_ii, scal_ss, scal_bb, scal_is, scal_si, scal_ns, scal_ni, scal_in, scal_sn, scal_nn, rI, rI0, rU, rIxLH, rIxTH, rLenH, rLenTH, rSetL, rCatN, rTupOfN, rLstOfN, rSlLN, rSlTN, CDiv, CPow, CMul, CDivW, rNeNil, rLenO, rSplitN, rRepN, r_replC, rMulS, r_methK, rRepTN, r_cmK, rCmpO, Bool.false_xor, Bool.true_xor, r_starT, r_starL, r_cm, r_cval, selK_t, selK_f, rAppend, rIsK, reduceCtorEq, upd_same, at0, at1, at2, at3, at4, at5, at6, at7, at8, at9, at10, at11, at12, at13, ix3_0, ix3_1, ix3_2, V.int.injEq, V.bl.injEq, V.str.injEq, V.ref.injEq, Option.some.injEq, HO.lst.injEq, HO.tup.injEq, HO.ins.injEq, List.cons.injEq, and_true, true_and, exists_eq_left, exists_eq_left', exists_and_left, exists_eq', exists_eq, and_assoc, N_law_next, hs3, ht3, e4]
    refine ⟨by decide, e2, .inl ⟨by decide, by decide⟩, by decide, by decide, ?_, e2, by decide, by decide, m0, ?_⟩
    · have h1 := Int.emod_nonneg c (show p ≠ 0 by omega)
      have h2 := Int.emod_lt_of_pos c e2
      omega
    · refine q _ (j + 1) _ (Int.emod_nonneg _ (by omega)) (Int.emod_lt_of_pos _ m0) (by omega) (by omega) ?_ ⟨c, d, hs3, by omega⟩
      exact Oth.new (Oth.new (Oth.new (Oth.set .refl) n1) n2) n3
def spSource (K : PySem.W.Frag) : Sp := fun vs H Q _ => ∃ (L : Addr) (ns : List Int) (k : Int), vs = [.ref L, .int k] ∧ SqL K H L (ns.map V.int) ∧ 0 ≤ k ∧ k < 1000000 ∧
  ∀ (p : Addr) (H' : Hp), H p = none → Same H H' → Src H' p (3 * k) → Q (.ref p) H'
theorem ok_law_source (T : Tx fa fn K mg) : Fn gd P w K mg base 1 (aG "_law_source" K) [] (spSource K) := by
  obtain ⟨fd, F⟩ := F_law_source T
  refine fn_all F sc_law_source (fun vs H Q E h => ?_) (b_law_source F) (fun cdv A outer s H vs Q E hr h => ⟨_, (pss_cons (ps_set (i := 2) sc_law_source.nd rfl (Or.inl rfl) (pe_ifExp (pt_cmpR (op_neD hr.r.units) (pv 0) (pe_lst pa_nil) (nomark _)) (pe_ix ix_list (pv 0) (pe_op op_mod (pv 1) (pe_callB call_len_seq (by rfl) (T.free (T.c.fact 0 (f := fFree "len") rfl)) (by decide +kernel) (pa_cons (pv 0) pa_nil))) (fun _ _ => rfl)) pe_int))
 (pss_one (ps_ret (pe_lst (pa_cons (pv 2) (pa_cons (pe_op op_mul pe_int (pv 1)) (pa_cons (pe_ifExp (pt_cmpR op_ge (pv 2) (pe_op op_pow pe_int pe_int) (nomark _)) (pe_op op_fdivW (pv 2) (pe_op op_pow pe_int pe_int)) pe_int) pa_nil))))))), ?_⟩)
  · first | (obtain ⟨_, e, _⟩ := h; subst e; rfl) | (obtain ⟨_, _, e, _⟩ := h; subst e; rfl) | (obtain ⟨_, _, _, e, _⟩ := h; subst e; rfl) | (obtain ⟨_, _, _, _, e, _⟩ := h; subst e; rfl) | (obtain ⟨_, _, _, _, _, e, _⟩ := h; subst e; rfl) | (obtain ⟨_, _, _, _, _, _, e, _⟩ := h; subst e; rfl) | (obtain ⟨_, _, _, _, _, _, _, e, _⟩ := h; subst e; rfl) | (obtain ⟨_, _, _, _, _, _, _, _, e, _⟩ := h; subst e; rfl) | (obtain ⟨_, _, _, _, _, _, _, _, _, e, _⟩ := h; subst e; rfl) | (obtain ⟨_, _, _, _, _, _, _, _, _, _, e, _⟩ := h; subst e; rfl) | (obtain ⟨_, _, _, _, _, _, _, _, _, _, _, e, _⟩ := h; subst e; rfl)
  obtain ⟨L, ns, k, rfl, hL, k0, k1, q⟩ := h
  try simp only [cxK, r_lam, r_dnew, r_err, r_base, r_serr, r_var, r_c, r_seq, r_next, r_break, r_cont, r_drop, r_ret, r_retN, r_if, r_ife, r_asg, r_name, r_op, r_un, r_nil, r_cons, r_lst2, r_tup2, r_lc, r_for, r_ilist, r_itup, r_istr, r_irng1, r_irng2, r_ienum, r_ienumS, wipe, r_cb, r_test, r_b, r_not, r_notV, r_andV, r_orV, r_isN, r_notN, r_m1, r_m0, r_fld, sFld, putF, r_par, r_sub, r_gtup, r_gnil, r_gcons, r_sl, r_nopart, r_part, r_bm, r_bm0, r_chain, r_call, r_callK, r_meth, r_prop, r_make, r_and, r_or, andT_t, andT_f, orT_t, orT_f, ifK_t, ifK_f, ifE_t, ifE_f, andK_t, andK_f, orK_t, orK_f, L2.start, List.map_cons, List.map_nil, List.length_cons, List.length_nil, List.replicate_succ, List.replicate_zero, List.cons_append, List.nil_append, List.getElem?_cons_succ, List.getElem?_cons_zero, List.set_cons_succ, List.set_cons_zero, Nat.reduceAdd, Nat.reduceSub, Nat.zero_add, decide_true, decide_false, Bool.not_true, Bool.not_false, if_true, if_false, rEq, rNe, scal_ii, scal_ss, scal_bb, scal_is, scal_si, scal_ns, scal_ni, scal_in, scal_sn, scal_nn, rI, rI0, rU, rIxLH, rIxTH, rLenH, rLenTH, rSetL, rCatN, rTupOfN, rLstOfN, rSlLN, rSlTN, CDiv, CPow, CMul, CDivW, rNeNil, rLenO, rSplitN, rRepN, r_replC, rMulS, r_methK, rRepTN, r_cmK, rCmpO, Bool.false_xor, Bool.true_xor, r_starT, r_starL, r_cm, r_cval, selK_t, selK_f, rAppend, rIsK, reduceCtorEq, upd_same, at0, at1, at2, at3, at4, at5, at6, at7, at8, at9, at10, at11, at12, at13, ix3_0, ix3_1, ix3_2, V.int.injEq, V.bl.injEq, V.str.injEq, V.ref.injEq, Option.some.injEq, HO.lst.injEq, HO.tup.injEq, HO.ins.injEq, List.cons.injEq, and_true, true_and, exists_eq_left, exists_eq_left', exists_and_left, exists_eq', exists_eq, and_assoc, N_law_source]
  refine ⟨fits (by decide), fun p H1 n1 => ?_⟩
  have hL1 := n1.same.seq hL
  have hp1 := n1.at_
  have he : ([] : List V) = ([] : List Int).map V.int := rfl
  rw [he] at hp1
  try simp only [cxK, r_lam, r_dnew, r_err, r_base, r_serr, r_var, r_c, r_seq, r_next, r_break, r_cont, r_drop, r_ret, r_retN, r_if, r_ife, r_asg, r_name, r_op, r_un, r_nil, r_cons, r_lst2, r_tup2, r_lc, r_for, r_ilist, r_itup, r_istr, r_irng1, r_irng2, r_ienum, r_ienumS, wipe, r_cb, r_test, r_b, r_not, r_notV, r_andV, r_orV, r_isN, r_notN, r_m1, r_m0, r_fld, sFld, putF, r_par, r_sub, r_gtup, r_gnil, r_gcons, r_sl, r_nopart, r_part, r_bm, r_bm0, r_chain, r_call, r_callK, r_meth, r_prop, r_make, r_and, r_or, andT_t, andT_f, orT_t, orT_f, ifK_t, ifK_f, ifE_t, ifE_f, andK_t, andK_f, orK_t, orK_f, L2.start, List.map_cons, List.map_nil, List.length_cons, List.length_nil, List.replicate_succ, List.replicate_zero, List.cons_append, List.nil_append, List.getElem?_cons_succ, List.getElem?_cons_zero, List.set_cons_succ, List.set_cons_zero, Nat.reduceAdd, Nat.reduceSub, Nat.zero_add, decide_true, decide_false, Bool.not_true, Bool.not_false, if_true, if_false, rEq, rNe, scal_ii, scal_ss, scal_bb, scal_is, scal_si, scal_ns, scal_ni, scal_in, scal_sn, scal_nn, rI, rI0, rU, rIxLH, rIxTH, rLenH, rLenTH, rSetL, rCatN, rTupOfN, rLstOfN, rSlLN, rSlTN, CDiv, CPow, CMul, CDivW, rNeNil, rLenO, rSplitN, rRepN, r_replC, rMulS, r_methK, rRepTN, r_cmK, rCmpO, Bool.false_xor, Bool.true_xor, r_starT, r_starL, r_cm, r_cval, selK_t, selK_f, rAppend, rIsK, reduceCtorEq, upd_same, at0, at1, at2, at3, at4, at5, at6, at7, at8, at9, at10, at11, at12, at13, ix3_0, ix3_1, ix3_2, V.int.injEq, V.bl.injEq, V.str.injEq, V.ref.injEq, Option.some.injEq, HO.lst.injEq, HO.tup.injEq, HO.ins.injEq, List.cons.injEq, and_true, true_and, exists_eq_left, exists_eq_left', exists_and_left, exists_eq', exists_eq, and_assoc, N_law_source]
  refine ⟨_, _, .lst hL1 (dp_ints ns), .lst (SqL.of hp1) (dp_ints []), shaped_ints _, shaped_ints _, ?_⟩
  have ev : PyData.eqv (.list (ns.map PyData.int)) (.list []) = decide (ns = []) := eqv_ints ns []
  try simp only [cxK, r_lam, r_dnew, r_err, r_base, r_serr, r_var, r_c, r_seq, r_next, r_break, r_cont, r_drop, r_ret, r_retN, r_if, r_ife, r_asg, r_name, r_op, r_un, r_nil, r_cons, r_lst2, r_tup2, r_lc, r_for, r_ilist, r_itup, r_istr, r_irng1, r_irng2, r_ienum, r_ienumS, wipe, r_cb, r_test, r_b, r_not, r_notV, r_andV, r_orV, r_isN, r_notN, r_m1, r_m0, r_fld, sFld, putF, r_par, r_sub, r_gtup, r_gnil, r_gcons, r_sl, r_nopart, r_part, r_bm, r_bm0, r_chain, r_call, r_callK, r_meth, r_prop, r_make, r_and, r_or, andT_t, andT_f, orT_t, orT_f, ifK_t, ifK_f, ifE_t, ifE_f, andK_t, andK_f, orK_t, orK_f, L2.start, List.map_cons, List.map_nil, List.length_cons, List.length_nil, List.replicate_succ, List.replicate_zero, List.cons_append, List.nil_append, List.getElem?_cons_succ, List.getElem?_cons_zero, List.set_cons_succ, List.set_cons_zero, Nat.reduceAdd, Nat.reduceSub, Nat.zero_add, decide_true, decide_false, Bool.not_true, Bool.not_false, if_true, if_false, rEq, rNe, scal_ii, scal_ss, scal_bb, scal_is, scal_si, scal_ns, scal_ni, scal_in, scal_sn, scal_nn, rI, rI0, rU, rIxLH, rIxTH, rLenH, rLenTH, rSetL, rCatN, rTupOfN, rLstOfN, rSlLN, rSlTN, CDiv, CPow, CMul, CDivW, rNeNil, rLenO, rSplitN, rRepN, r_replC, rMulS, r_methK, rRepTN, r_cmK, rCmpO, Bool.false_xor, Bool.true_xor, r_starT, r_starL, r_cm, r_cval, selK_t, selK_f, rAppend, rIsK, reduceCtorEq, upd_same, at0, at1, at2, at3, at4, at5, at6, at7, at8, at9, at10, at11, at12, at13, ix3_0, ix3_1, ix3_2, V.int.injEq, V.bl.injEq, V.str.injEq, V.ref.injEq, Option.some.injEq, HO.lst.injEq, HO.tup.injEq, HO.ins.injEq, List.cons.injEq, and_true, true_and, exists_eq_left, exists_eq_left', exists_and_left, exists_eq', exists_eq, and_assoc, N_law_source, ev]
  have fin : ∀ (c : Int) (H2 : Hp), Same H H2 → (-2 ^ 64 < (3 : Int) ∧ (3 : Int) < 2 ^ 64 ∨ -2 ^ 64 < k ∧ k < 2 ^ 64) ∧ 0 ≤ (18 : Int) ∧ (18 : Int) ≤ 1000000 ∧ Int.natAbs 10 < 2 ^ 64 ∧
      ifE (tOp (rI CDivW fun i j => V.int (i / j)) (tVar 2) (tOp (rI CPow fun i j => V.int (i ^ j.toNat)) (tC (V.int 10)) (tC (V.int 18)))) (tC (V.int 0)) [some (V.ref L), some (V.int k), some (V.int c)]
        (fun x_1 H1 => 3 ≤ sizeLine ∧ ∀ (p : Addr) (H2 : Hp), IsNew H1 p (HO.lst [V.int c, V.int (3 * k), x_1]) H2 → Q (V.ref p) H2) (decide (10 ^ Int.toNat 18 ≤ c)) H2 := by
    intro c H2 sm
    refine ⟨.inl ⟨by decide, by decide⟩, by decide, by decide, by decide, ?_⟩
    have e : (10 : Int) ^ Int.toNat 18 = 1000000000000000000 := by decide
    have last : ∀ (d : Int), 3 ≤ sizeLine ∧ ∀ (p : Addr) (H3 : Hp), IsNew H2 p (HO.lst [V.int c, V.int (3 * k), V.int d]) H3 → Q (V.ref p) H3 := fun d => ⟨fits (by decide), fun p H3 n3 => q p H3 (by
      have z := n3.1
      cases e : H p with
      | none => rfl
      | some o => rw [sm _ _ e] at z; cases z) (same_trans sm n3.same) ⟨c, d, n3.at_, by omega⟩⟩
    by_cases h : (10 : Int) ^ Int.toNat 18 ≤ c
    · try simp only [cxK, r_lam, r_dnew, r_err, r_base, r_serr, r_var, r_c, r_seq, r_next, r_break, r_cont, r_drop, r_ret, r_retN, r_if, r_ife, r_asg, r_name, r_op, r_un, r_nil, r_cons, r_lst2, r_tup2, r_lc, r_for, r_ilist, r_itup, r_istr, r_irng1, r_irng2, r_ienum, r_ienumS, wipe, r_cb, r_test, r_b, r_not, r_notV, r_andV, r_orV, r_isN, r_notN, r_m1, r_m0, r_fld, sFld, putF, r_par, r_sub, r_gtup, r_gnil, r_gcons, r_sl, r_nopart, r_part, r_bm, r_bm0, r_chain, r_call, r_callK, r_meth, r_prop, r_make, r_and, r_or, andT_t, andT_f, orT_t, orT_f, ifK_t, ifK_f, ifE_t, ifE_f, andK_t, andK_f, orK_t, orK_f, L2.start, List.map_cons, List.map_nil, List.length_cons, List.length_nil, List.replicate_succ, List.replicate_zero, List.cons_append, List.nil_append, List.getElem?_cons_succ, List.getElem?_cons_zero, List.set_cons_succ, List.set_cons_zero, Nat.reduceAdd, Nat.reduceSub, Nat.zero_add, decide_true, decide_false, Bool.not_true, Bool.not_false, if_true, if_false, rEq, rNe, scal_ii, scal_ss, scal_bb, scal_is, scal_si, scal_ns, scal_ni, scal_in, scal_sn, scal_nn, rI, rI0, rU, rIxLH, rIxTH, rLenH, rLenTH, rSetL, rCatN, rTupOfN, rLstOfN, rSlLN, rSlTN, CDiv, CPow, CMul, CDivW, rNeNil, rLenO, rSplitN, rRepN, r_replC, rMulS, r_methK, rRepTN, r_cmK, rCmpO, Bool.false_xor, Bool.true_xor, r_starT, r_starL, r_cm, r_cval, selK_t, selK_f, rAppend, rIsK, reduceCtorEq, upd_same, at0, at1, at2, at3, at4, at5, at6, at7, at8, at9, at10, at11, at12, at13, ix3_0, ix3_1, ix3_2, V.int.injEq, V.bl.injEq, V.str.injEq, V.ref.injEq, Option.some.injEq, HO.lst.injEq, HO.tup.injEq, HO.ins.injEq, List.cons.injEq, and_true, true_and, exists_eq_left, exists_eq_left', exists_and_left, exists_eq', exists_eq, and_assoc, N_law_source, h]
      refine ⟨by decide, by decide, by decide, by rw [e]; decide, by rw [e]; decide +kernel, last _⟩
    · try simp only [cxK, r_lam, r_dnew, r_err, r_base, r_serr, r_var, r_c, r_seq, r_next, r_break, r_cont, r_drop, r_ret, r_retN, r_if, r_ife, r_asg, r_name, r_op, r_un, r_nil, r_cons, r_lst2, r_tup2, r_lc, r_for, r_ilist, r_itup, r_istr, r_irng1, r_irng2, r_ienum, r_ienumS, wipe, r_cb, r_test, r_b, r_not, r_notV, r_andV, r_orV, r_isN, r_notN, r_m1, r_m0, r_fld, sFld, putF, r_par, r_sub, r_gtup, r_gnil, r_gcons, r_sl, r_nopart, r_part, r_bm, r_bm0, r_chain, r_call, r_callK, r_meth, r_prop, r_make, r_and, r_or, andT_t, andT_f, orT_t, orT_f, ifK_t, ifK_f, ifE_t, ifE_f, andK_t, andK_f, orK_t, orK_f, L2.start, List.map_cons, List.map_nil, List.length_cons, List.length_nil, List.replicate_succ, List.replicate_zero, List.cons_append, List.nil_append, List.getElem?_cons_succ, List.getElem?_cons_zero, List.set_cons_succ, List.set_cons_zero, Nat.reduceAdd, Nat.reduceSub, Nat.zero_add, decide_true, decide_false, Bool.not_true, Bool.not_false, if_true, if_false, rEq, rNe, scal_ii, scal_ss, scal_bb, scal_is, scal_si, scal_ns, scal_ni, scal_in, scal_sn, scal_nn, rI, rI0, rU, rIxLH, rIxTH, rLenH, rLenTH, rSetL, rCatN, rTupOfN, rLstOfN, rSlLN, rSlTN, CDiv, CPow, CMul, CDivW, rNeNil, rLenO, rSplitN, rRepN, r_replC, rMulS, r_methK, rRepTN, r_cmK, rCmpO, Bool.false_xor, Bool.true_xor, r_starT, r_starL, r_cm, r_cval, selK_t, selK_f, rAppend, rIsK, reduceCtorEq, upd_same, at0, at1, at2, at3, at4, at5, at6, at7, at8, at9, at10, at11, at12, at13, ix3_0, ix3_1, ix3_2, V.int.injEq, V.bl.injEq, V.str.injEq, V.ref.injEq, Option.some.injEq, HO.lst.injEq, HO.tup.injEq, HO.ins.injEq, List.cons.injEq, and_true, true_and, exists_eq_left, exists_eq_left', exists_and_left, exists_eq', exists_eq, and_assoc, N_law_source, h]
      exact last 0
  by_cases hn : ns = []
  · subst hn
    try simp only [cxK, r_lam, r_dnew, r_err, r_base, r_serr, r_var, r_c, r_seq, r_next, r_break, r_cont, r_drop, r_ret, r_retN, r_if, r_ife, r_asg, r_name, r_op, r_un, r_nil, r_cons, r_lst2, r_tup2, r_lc, r_for, r_ilist, r_itup, r_istr, r_irng1, r_irng2, r_ienum, r_ienumS, wipe, r_cb, r_test, r_b, r_not, r_notV, r_andV, r_orV, r_isN, r_notN, r_m1, r_m0, r_fld, sFld, putF, r_par, r_sub, r_gtup, r_gnil, r_gcons, r_sl, r_nopart, r_part, r_bm, r_bm0, r_chain, r_call, r_callK, r_meth, r_prop, r_make, r_and, r_or, andT_t, andT_f, orT_t, orT_f, ifK_t, ifK_f, ifE_t, ifE_f, andK_t, andK_f, orK_t, orK_f, L2.start, List.map_cons, List.map_nil, List.length_cons, List.length_nil, List.replicate_succ, List.replicate_zero, List.cons_append, List.nil_append, List.getElem?_cons_succ, List.getElem?_cons_zero, List.set_cons_succ, List.set_cons_zero, Nat.reduceAdd, Nat.reduceSub, Nat.zero_add, decide_true, decide_false, Bool.not_true, Bool.not_false, if_true, if_false, rEq, rNe, scal_ii, scal_ss, scal_bb, scal_is, scal_si, scal_ns, scal_ni, scal_in, scal_sn, scal_nn, rI, rI0, rU, rIxLH, rIxTH, rLenH, rLenTH, rSetL, rCatN, rTupOfN, rLstOfN, rSlLN, rSlTN, CDiv, CPow, CMul, CDivW, rNeNil, rLenO, rSplitN, rRepN, r_replC, rMulS, r_methK, rRepTN, r_cmK, rCmpO, Bool.false_xor, Bool.true_xor, r_starT, r_starL, r_cm, r_cval, selK_t, selK_f, rAppend, rIsK, reduceCtorEq, upd_same, at0, at1, at2, at3, at4, at5, at6, at7, at8, at9, at10, at11, at12, at13, ix3_0, ix3_1, ix3_2, V.int.injEq, V.bl.injEq, V.str.injEq, V.ref.injEq, Option.some.injEq, HO.lst.injEq, HO.tup.injEq, HO.ins.injEq, List.cons.injEq, and_true, true_and, exists_eq_left, exists_eq_left', exists_and_left, exists_eq', exists_eq, and_assoc, N_law_source]
    exact fin 1 H1 n1.same
  · try simp only [cxK, r_lam, r_dnew, r_err, r_base, r_serr, r_var, r_c, r_seq, r_next, r_break, r_cont, r_drop, r_ret, r_retN, r_if, r_ife, r_asg, r_name, r_op, r_un, r_nil, r_cons, r_lst2, r_tup2, r_lc, r_for, r_ilist, r_itup, r_istr, r_irng1, r_irng2, r_ienum, r_ienumS, wipe, r_cb, r_test, r_b, r_not, r_notV, r_andV, r_orV, r_isN, r_notN, r_m1, r_m0, r_fld, sFld, putF, r_par, r_sub, r_gtup, r_gnil, r_gcons, r_sl, r_nopart, r_part, r_bm, r_bm0, r_chain, r_call, r_callK, r_meth, r_prop, r_make, r_and, r_or, andT_t, andT_f, orT_t, orT_f, ifK_t, ifK_f, ifE_t, ifE_f, andK_t, andK_f, orK_t, orK_f, L2.start, List.map_cons, List.map_nil, List.length_cons, List.length_nil, List.replicate_succ, List.replicate_zero, List.cons_append, List.nil_append, List.getElem?_cons_succ, List.getElem?_cons_zero, List.set_cons_succ, List.set_cons_zero, Nat.reduceAdd, Nat.reduceSub, Nat.zero_add, decide_true, decide_false, Bool.not_true, Bool.not_false, if_true, if_false, rEq, rNe, scal_ii, scal_ss, scal_bb, scal_is, scal_si, scal_ns, scal_ni, scal_in, scal_sn, scal_nn, rI, rI0, rU, rIxLH, rIxTH, rLenH, rLenTH, rSetL, rCatN, rTupOfN, rLstOfN, rSlLN, rSlTN, CDiv, CPow, CMul, CDivW, rNeNil, rLenO, rSplitN, rRepN, r_replC, rMulS, r_methK, rRepTN, r_cmK, rCmpO, Bool.false_xor, Bool.true_xor, r_starT, r_starL, r_cm, r_cval, selK_t, selK_f, rAppend, rIsK, reduceCtorEq, upd_same, at0, at1, at2, at3, at4, at5, at6, at7, at8, at9, at10, at11, at12, at13, ix3_0, ix3_1, ix3_2, V.int.injEq, V.bl.injEq, V.str.injEq, V.ref.injEq, Option.some.injEq, HO.lst.injEq, HO.tup.injEq, HO.ins.injEq, List.cons.injEq, and_true, true_and, exists_eq_left, exists_eq_left', exists_and_left, exists_eq', exists_eq, and_assoc, N_law_source, hn]
    have hl : 0 < ns.length := List.length_pos_iff.mpr hn
    refine ⟨_, Or.inl hL1, ?_⟩
    try simp only [cxK, r_lam, r_dnew, r_err, r_base, r_serr, r_var, r_c, r_seq, r_next, r_break, r_cont, r_drop, r_ret, r_retN, r_if, r_ife, r_asg, r_name, r_op, r_un, r_nil, r_cons, r_lst2, r_tup2, r_lc, r_for, r_ilist, r_itup, r_istr, r_irng1, r_irng2, r_ienum, r_ienumS, wipe, r_cb, r_test, r_b, r_not, r_notV, r_andV, r_orV, r_isN, r_notN, r_m1, r_m0, r_fld, sFld, putF, r_par, r_sub, r_gtup, r_gnil, r_gcons, r_sl, r_nopart, r_part, r_bm, r_bm0, r_chain, r_call, r_callK, r_meth, r_prop, r_make, r_and, r_or, andT_t, andT_f, orT_t, orT_f, ifK_t, ifK_f, ifE_t, ifE_f, andK_t, andK_f, orK_t, orK_f, L2.start, List.map_cons, List.map_nil, List.length_cons, List.length_nil, List.replicate_succ, List.replicate_zero, List.cons_append, List.nil_append, List.getElem?_cons_succ, List.getElem?_cons_zero, List.set_cons_succ, List.set_cons_zero, Nat.reduceAdd, Nat.reduceSub, Nat.zero_add, decide_true, decide_false, Bool.not_true, Bool.not_false, if_true, if_false, rEq, rNe, scal_ii, scal_ss, scal_bb, scal_is, scal_si, scal_ns, scal_ni, scal_in, scal_sn, scal_nn, rI, rI0, rU, rIxLH, rIxTH, rLenH, rLenTH, rSetL, rCatN, rTupOfN, rLstOfN, rSlLN, rSlTN, CDiv, CPow, CMul, CDivW, rNeNil, rLenO, rSplitN, rRepN, r_replC, rMulS, r_methK, rRepTN, r_cmK, rCmpO, Bool.false_xor, Bool.true_xor, r_starT, r_starL, r_cm, r_cval, selK_t, selK_f, rAppend, rIsK, reduceCtorEq, upd_same, at0, at1, at2, at3, at4, at5, at6, at7, at8, at9, at10, at11, at12, at13, ix3_0, ix3_1, ix3_2, V.int.injEq, V.bl.injEq, V.str.injEq, V.ref.injEq, Option.some.injEq, HO.lst.injEq, HO.tup.injEq, HO.ins.injEq, List.cons.injEq, and_true, true_and, exists_eq_left, exists_eq_left', exists_and_left, exists_eq', exists_eq, and_assoc, N_law_source]
    have hl2 : (List.map V.int ns).length = ns.length := List.length_map ..
    rw [hl2]
    obtain ⟨v, e1, e2⟩ := atI_of (xs := ns.map V.int) (i := k % (ns.length : Int)) (Int.emod_nonneg _ (by omega)) (by rw [hl2]; exact Int.emod_lt_of_pos _ (by omega))
    rw [List.getElem?_map] at e2
    obtain ⟨c, e3, e4⟩ := Option.map_eq_some_iff.mp e2
    subst e4
    refine ⟨by omega, L, _, _, V.int c, rfl, rfl, hL1, e1, ?_⟩
    try simp only [cxK, r_lam, r_dnew, r_err, r_base, r_serr, r_var, r_c, r_seq, r_next, r_break, r_cont, r_drop, r_ret, r_retN, r_if, r_ife, r_asg, r_name, r_op, r_un, r_nil, r_cons, r_lst2, r_tup2, r_lc, r_for, r_ilist, r_itup, r_istr, r_irng1, r_irng2, r_ienum, r_ienumS, wipe, r_cb, r_test, r_b, r_not, r_notV, r_andV, r_orV, r_isN, r_notN, r_m1, r_m0, r_fld, sFld, putF, r_par, r_sub, r_gtup, r_gnil, r_gcons, r_sl, r_nopart, r_part, r_bm, r_bm0, r_chain, r_call, r_callK, r_meth, r_prop, r_make, r_and, r_or, andT_t, andT_f, orT_t, orT_f, ifK_t, ifK_f, ifE_t, ifE_f, andK_t, andK_f, orK_t, orK_f, L2.start, List.map_cons, List.map_nil, List.length_cons, List.length_nil, List.replicate_succ, List.replicate_zero, List.cons_append, List.nil_append, List.getElem?_cons_succ, List.getElem?_cons_zero, List.set_cons_succ, List.set_cons_zero, Nat.reduceAdd, Nat.reduceSub, Nat.zero_add, decide_true, decide_false, Bool.not_true, Bool.not_false, if_true, if_false, rEq, rNe, scal_ii, scal_ss, scal_bb, scal_is, scal_si, scal_ns, scal_ni, scal_in, scal_sn, scal_nn, rI, rI0, rU, rIxLH, rIxTH, rLenH, rLenTH, rSetL, rCatN, rTupOfN, rLstOfN, rSlLN, rSlTN, CDiv, CPow, CMul, CDivW, rNeNil, rLenO, rSplitN, rRepN, r_replC, rMulS, r_methK, rRepTN, r_cmK, rCmpO, Bool.false_xor, Bool.true_xor, r_starT, r_starL, r_cm, r_cval, selK_t, selK_f, rAppend, rIsK, reduceCtorEq, upd_same, at0, at1, at2, at3, at4, at5, at6, at7, at8, at9, at10, at11, at12, at13, ix3_0, ix3_1, ix3_2, V.int.injEq, V.bl.injEq, V.str.injEq, V.ref.injEq, Option.some.injEq, HO.lst.injEq, HO.tup.injEq, HO.ins.injEq, List.cons.injEq, and_true, true_and, exists_eq_left, exists_eq_left', exists_and_left, exists_eq', exists_eq, and_assoc, N_law_source]
    exact fin c H1 n1.same
/-- an item of a list -/
def spPick : Sp := fun vs H Q _ => ∃ (a l : Addr) (j : Int) (xs : List V), vs = [.ref a, .ref l] ∧ l ≠ a ∧ H l = some (.lst xs) ∧ 0 < xs.length ∧ xs.length < 500000000 ∧ Src H a j ∧ j < 1099511627776 ∧
  ∀ (i : Nat) (v : V) (j' : Int) (H' : Hp), xs[i]? = some v → j ≤ j' → j' ≤ j + 1 → Oth a H H' → Src H' a j' → Q v H'
theorem ok_law_pick (T : Tx fa fn K mg) : Fn gd P w K mg base 2 (aG "_law_pick" K) [] spPick := by
  obtain ⟨fd, F⟩ := F_law_pick T
  refine fn_all F sc_law_pick (fun vs H Q E h => ?_) (b_law_pick F) (fun cdv A outer s H vs Q E hr h => ⟨_, (pss_one (ps_ret (pe_ix ix_lh (pv 1) (pe_fn (ok_law_next T) (hr.mono (by decide)) rfl (g_law_next T) (k_law_next T) passD (pa_cons (pv 0) (pa_cons (pe_callB call_len_lh (by rfl) (T.free (T.c.fact 0 (f := fFree "len") rfl)) (by decide +kernel) (pa_cons (pv 1) pa_nil)) pa_nil))) (fun _ _ => rfl)))), ?_⟩)
  · first | (obtain ⟨_, e, _⟩ := h; subst e; rfl) | (obtain ⟨_, _, e, _⟩ := h; subst e; rfl) | (obtain ⟨_, _, _, e, _⟩ := h; subst e; rfl) | (obtain ⟨_, _, _, _, e, _⟩ := h; subst e; rfl) | (obtain ⟨_, _, _, _, _, e, _⟩ := h; subst e; rfl) | (obtain ⟨_, _, _, _, _, _, e, _⟩ := h; subst e; rfl) | (obtain ⟨_, _, _, _, _, _, _, e, _⟩ := h; subst e; rfl) | (obtain ⟨_, _, _, _, _, _, _, _, e, _⟩ := h; subst e; rfl) | (obtain ⟨_, _, _, _, _, _, _, _, _, e, _⟩ := h; subst e; rfl) | (obtain ⟨_, _, _, _, _, _, _, _, _, _, e, _⟩ := h; subst e; rfl) | (obtain ⟨_, _, _, _, _, _, _, _, _, _, _, e, _⟩ := h; subst e; rfl)
  obtain ⟨a, l, j, xs, rfl, la, hl, x0, x1, hs, j1, q⟩ := h
  try simp only [cxK, r_lam, r_dnew, r_err, r_base, r_serr, r_var, r_c, r_seq, r_next, r_break, r_cont, r_drop, r_ret, r_retN, r_if, r_ife, r_asg, r_name, r_op, r_un, r_nil, r_cons, r_lst2, r_tup2, r_lc, r_for, r_ilist, r_itup, r_istr, r_irng1, r_irng2, r_ienum, r_ienumS, wipe, r_cb, r_test, r_b, r_not, r_notV, r_andV, r_orV, r_isN, r_notN, r_m1, r_m0, r_fld, sFld, putF, r_par, r_sub, r_gtup, r_gnil, r_gcons, r_sl, r_nopart, r_part, r_bm, r_bm0, r_chain, r_call, r_callK, r_meth, r_prop, r_make, r_and, r_or, andT_t, andT_f, orT_t, orT_f, ifK_t, ifK_f, ifE_t, ifE_f, andK_t, andK_f, orK_t, orK_f, L2.start, List.map_cons, List.map_nil, List.length_cons, List.length_nil, List.replicate_succ, List.replicate_zero, List.cons_append, List.nil_append, List.getElem?_cons_succ, List.getElem?_cons_zero, List.set_cons_succ, List.set_cons_zero, Nat.reduceAdd, Nat.reduceSub, Nat.zero_add, decide_true, decide_false, Bool.not_true, Bool.not_false, if_true, if_false, rEq, rNe, scal_ii, scal_ss, scal_bb, scal_is, scal_si, scal_ns, scal_ni, scal_in, scal_sn, scal_nn, rI, rI0, rU, rIxLH, rIxTH, rLenH, rLenTH, rSetL, rCatN, rTupOfN, rLstOfN, rSlLN, rSlTN, CDiv, CPow, CMul, CDivW, rNeNil, rLenO, rSplitN, rRepN, r_replC, rMulS, r_methK, rRepTN, r_cmK, rCmpO, Bool.false_xor, Bool.true_xor, r_starT, r_starL, r_cm, r_cval, selK_t, selK_f, rAppend, rIsK, reduceCtorEq, upd_same, at0, at1, at2, at3, at4, at5, at6, at7, at8, at9, at10, at11, at12, at13, ix3_0, ix3_1, ix3_2, V.int.injEq, V.bl.injEq, V.str.injEq, V.ref.injEq, Option.some.injEq, HO.lst.injEq, HO.tup.injEq, HO.ins.injEq, List.cons.injEq, and_true, true_and, exists_eq_left, exists_eq_left', exists_and_left, exists_eq', exists_eq, and_assoc, N_law_pick, hl]
  refine ⟨a, xs.length, j, rfl, by omega, by omega, hs, j1, fun r j' H' r0 r1 j2 j3 ho hs' => ?_⟩
  have hl' := ho l _ la hl
  try simp only [cxK, r_lam, r_dnew, r_err, r_base, r_serr, r_var, r_c, r_seq, r_next, r_break, r_cont, r_drop, r_ret, r_retN, r_if, r_ife, r_asg, r_name, r_op, r_un, r_nil, r_cons, r_lst2, r_tup2, r_lc, r_for, r_ilist, r_itup, r_istr, r_irng1, r_irng2, r_ienum, r_ienumS, wipe, r_cb, r_test, r_b, r_not, r_notV, r_andV, r_orV, r_isN, r_notN, r_m1, r_m0, r_fld, sFld, putF, r_par, r_sub, r_gtup, r_gnil, r_gcons, r_sl, r_nopart, r_part, r_bm, r_bm0, r_chain, r_call, r_callK, r_meth, r_prop, r_make, r_and, r_or, andT_t, andT_f, orT_t, orT_f, ifK_t, ifK_f, ifE_t, ifE_f, andK_t, andK_f, orK_t, orK_f, L2.start, List.map_cons, List.map_nil, List.length_cons, List.length_nil, List.replicate_succ, List.replicate_zero, List.cons_append, List.nil_append, List.getElem?_cons_succ, List.getElem?_cons_zero, List.set_cons_succ, List.set_cons_zero, Nat.reduceAdd, Nat.reduceSub, Nat.zero_add, decide_true, decide_false, Bool.not_true, Bool.not_false, if_true, if_false, rEq, rNe, scal_ii, scal_ss, scal_bb, scal_is, scal_si, scal_ns, scal_ni, scal_in, scal_sn, scal_nn, rI, rI0, rU, rIxLH, rIxTH, rLenH, rLenTH, rSetL, rCatN, rTupOfN, rLstOfN, rSlLN, rSlTN, CDiv, CPow, CMul, CDivW, rNeNil, rLenO, rSplitN, rRepN, r_replC, rMulS, r_methK, rRepTN, r_cmK, rCmpO, Bool.false_xor, Bool.true_xor, r_starT, r_starL, r_cm, r_cval, selK_t, selK_f, rAppend, rIsK, reduceCtorEq, upd_same, at0, at1, at2, at3, at4, at5, at6, at7, at8, at9, at10, at11, at12, at13, ix3_0, ix3_1, ix3_2, V.int.injEq, V.bl.injEq, V.str.injEq, V.ref.injEq, Option.some.injEq, HO.lst.injEq, HO.tup.injEq, HO.ins.injEq, List.cons.injEq, and_true, true_and, exists_eq_left, exists_eq_left', exists_and_left, exists_eq', exists_eq, and_assoc, N_law_pick, hl']
  obtain ⟨v, e1, e2⟩ := atI_of r0 r1
  exact ⟨v, e1, q _ v j' H' e2 j2 j3 ho hs'⟩
def spPickS : Sp := fun vs H Q _ => ∃ (a : Addr) (z : Str) (j : Int), vs = [.ref a, .str z] ∧ 0 < z.cps.size ∧ z.cps.size < 16000000 ∧ Src H a j ∧ j < 1099511627776 ∧
  ∀ (c : Nat) (j' : Int) (H' : Hp), c ∈ z.cps.toList → j ≤ j' → j' ≤ j + 1 → Oth a H H' → Src H' a j' → Q (.str ⟨#[c]⟩) H'
theorem ok_law_pickS (T : Tx fa fn K mg) : Fn gd P w K mg base 2 (aG "_law_pick" K) [] spPickS := by
  obtain ⟨fd, F⟩ := F_law_pick T
  refine fn_all F sc_law_pick (fun vs H Q E h => ?_) (b_law_pick F) (fun cdv A outer s H vs Q E hr h => ⟨_, (pss_one (ps_ret (pe_ix ix_str (pv 1) (pe_fn (ok_law_next T) (hr.mono (by decide)) rfl (g_law_next T) (k_law_next T) passD (pa_cons (pv 0) (pa_cons (pe_callB call_len_str (by rfl) (T.free (T.c.fact 0 (f := fFree "len") rfl)) (by decide +kernel) (pa_cons (pv 1) pa_nil)) pa_nil))) (fun _ _ => rfl)))), ?_⟩)
  · first | (obtain ⟨_, e, _⟩ := h; subst e; rfl) | (obtain ⟨_, _, e, _⟩ := h; subst e; rfl) | (obtain ⟨_, _, _, e, _⟩ := h; subst e; rfl) | (obtain ⟨_, _, _, _, e, _⟩ := h; subst e; rfl) | (obtain ⟨_, _, _, _, _, e, _⟩ := h; subst e; rfl) | (obtain ⟨_, _, _, _, _, _, e, _⟩ := h; subst e; rfl) | (obtain ⟨_, _, _, _, _, _, _, e, _⟩ := h; subst e; rfl) | (obtain ⟨_, _, _, _, _, _, _, _, e, _⟩ := h; subst e; rfl) | (obtain ⟨_, _, _, _, _, _, _, _, _, e, _⟩ := h; subst e; rfl) | (obtain ⟨_, _, _, _, _, _, _, _, _, _, e, _⟩ := h; subst e; rfl) | (obtain ⟨_, _, _, _, _, _, _, _, _, _, _, e, _⟩ := h; subst e; rfl)
  obtain ⟨a, z, j, rfl, z0, z1, hs, j1, q⟩ := h
  try simp only [cxK, r_lam, r_dnew, r_err, r_base, r_serr, r_var, r_c, r_seq, r_next, r_break, r_cont, r_drop, r_ret, r_retN, r_if, r_ife, r_asg, r_name, r_op, r_un, r_nil, r_cons, r_lst2, r_tup2, r_lc, r_for, r_ilist, r_itup, r_istr, r_irng1, r_irng2, r_ienum, r_ienumS, wipe, r_cb, r_test, r_b, r_not, r_notV, r_andV, r_orV, r_isN, r_notN, r_m1, r_m0, r_fld, sFld, putF, r_par, r_sub, r_gtup, r_gnil, r_gcons, r_sl, r_nopart, r_part, r_bm, r_bm0, r_chain, r_call, r_callK, r_meth, r_prop, r_make, r_and, r_or, andT_t, andT_f, orT_t, orT_f, ifK_t, ifK_f, ifE_t, ifE_f, andK_t, andK_f, orK_t, orK_f, L2.start, List.map_cons, List.map_nil, List.length_cons, List.length_nil, List.replicate_succ, List.replicate_zero, List.cons_append, List.nil_append, List.getElem?_cons_succ, List.getElem?_cons_zero, List.set_cons_succ, List.set_cons_zero, Nat.reduceAdd, Nat.reduceSub, Nat.zero_add, decide_true, decide_false, Bool.not_true, Bool.not_false, if_true, if_false, rEq, rNe, scal_ii, scal_ss, scal_bb, scal_is, scal_si, scal_ns, scal_ni, scal_in, scal_sn, scal_nn, rI, rI0, rU, rIxLH, rIxTH, rLenH, rLenTH, rSetL, rCatN, rTupOfN, rLstOfN, rSlLN, rSlTN, CDiv, CPow, CMul, CDivW, rNeNil, rLenO, rSplitN, rRepN, r_replC, rMulS, r_methK, rRepTN, r_cmK, rCmpO, Bool.false_xor, Bool.true_xor, r_starT, r_starL, r_cm, r_cval, selK_t, selK_f, rAppend, rIsK, reduceCtorEq, upd_same, at0, at1, at2, at3, at4, at5, at6, at7, at8, at9, at10, at11, at12, at13, ix3_0, ix3_1, ix3_2, V.int.injEq, V.bl.injEq, V.str.injEq, V.ref.injEq, Option.some.injEq, HO.lst.injEq, HO.tup.injEq, HO.ins.injEq, List.cons.injEq, and_true, true_and, exists_eq_left, exists_eq_left', exists_and_left, exists_eq', exists_eq, and_assoc, N_law_pick]
  have hz : z.length = z.cps.size := rfl
  refine ⟨fits (by rw [hz]; omega), a, z.length, j, rfl, by rw [hz]; omega, by rw [hz]; omega, hs, j1, fun r j' H' r0 r1 j2 j3 ho hs' => ?_⟩
  have hr : r < (z.cps.toList.length : Int) := by simpa [hz] using r1
  obtain ⟨c, e1, e2⟩ := atI_of r0 hr
  exact ⟨z, r, c, rfl, rfl, fits (by rw [hz]; omega), e1, q c j' H' (List.mem_of_getElem? e2) j2 j3 ho hs'⟩

end

section
variable {gd : Bool} {P : Program} {w : World} {K : PySem.W.Frag} {mg : Str → Option Value} {base : Heap}

theorem ox_BadName (T : Tx fa fn K mg) : OxF famV K (ga K "BadName") (ma K (ga K "BadName") "__init__") "reason" := ox_ok (T.c.fact 1 (f := fOx famV "BadName" "reason") rfl)
theorem ok_BadName_init (T : Tx fa fn K mg) : Fn gd P w K mg base 1 (aM "BadName" "__init__" K) [] (spErr (ga K "BadName") "reason") := by
  obtain ⟨fd, F⟩ := F_BadName_init T
  have bs := base_ok (T.c.fact 2 (f := fBase "Invalid" "__init__" famV.initId) rfl)
  refine fn_all F sc_BadName_init (fun vs H Q E h => ?_) (b_BadName_init F) (fun cdv A outer s H vs Q E hr h => ⟨_, pss_cons (ps_expr (pe_base (fm := famV) rfl (T.glo (T.c.fact 3 (f := fGlo "Invalid") rfl)) bs.1 bs.2.1 bs.2.2 (pa_cons (pv 0) (pa_cons pe_str pa_nil)))) (pss_one (ps_err (fm := famV) (pv 0) (pv 1))), ?_⟩)
  · obtain ⟨_, _, e, _⟩ := h; subst e; rfl
  obtain ⟨a, v, rfl, ha, q⟩ := h
  try simp only [cxK, r_lam, r_dnew, r_err, r_base, r_serr, r_var, r_c, r_seq, r_next, r_break, r_cont, r_drop, r_ret, r_retN, r_if, r_ife, r_asg, r_name, r_op, r_un, r_nil, r_cons, r_lst2, r_tup2, r_lc, r_for, r_ilist, r_itup, r_istr, r_irng1, r_irng2, r_ienum, r_ienumS, wipe, r_cb, r_test, r_b, r_not, r_notV, r_andV, r_orV, r_isN, r_notN, r_m1, r_m0, r_fld, sFld, putF, r_par, r_sub, r_gtup, r_gnil, r_gcons, r_sl, r_nopart, r_part, r_bm, r_bm0, r_chain, r_call, r_callK, r_meth, r_prop, r_make, r_and, r_or, andT_t, andT_f, orT_t, orT_f, ifK_t, ifK_f, ifE_t, ifE_f, andK_t, andK_f, orK_t, orK_f, L2.start, List.map_cons, List.map_nil, List.length_cons, List.length_nil, List.replicate_succ, List.replicate_zero, List.cons_append, List.nil_append, List.getElem?_cons_succ, List.getElem?_cons_zero, List.set_cons_succ, List.set_cons_zero, Nat.reduceAdd, Nat.reduceSub, Nat.zero_add, decide_true, decide_false, Bool.not_true, Bool.not_false, if_true, if_false, rEq, rNe, scal_ii, scal_ss, scal_bb, scal_is, scal_si, scal_ns, scal_ni, scal_in, scal_sn, scal_nn, rI, rI0, rU, rIxLH, rIxTH, rLenH, rLenTH, rSetL, rCatN, rTupOfN, rLstOfN, rSlLN, rSlTN, CDiv, CPow, CMul, CDivW, rNeNil, rLenO, rSplitN, rRepN, r_replC, rMulS, r_methK, rRepTN, r_cmK, rCmpO, Bool.false_xor, Bool.true_xor, r_starT, r_starL, r_cm, r_cval, selK_t, selK_f, rAppend, rIsK, reduceCtorEq, upd_same, at0, at1, at2, at3, at4, at5, at6, at7, at8, at9, at10, at11, at12, at13, ix3_0, ix3_1, ix3_2, V.int.injEq, V.bl.injEq, V.str.injEq, V.ref.injEq, Option.some.injEq, HO.lst.injEq, HO.tup.injEq, HO.ins.injEq, List.cons.injEq, and_true, true_and, exists_eq_left, exists_eq_left', exists_and_left, exists_eq', exists_eq, and_assoc, N_BadName_init]
  exact ⟨_, ha, (ox_BadName T).c, by simp, _, ha, (ox_BadName T).c, (ox_BadName T).no, q⟩
theorem ox_BadPath (T : Tx fa fn K mg) : OxF famV K (ga K "BadPath") (ma K (ga K "BadPath") "__init__") "reason" := ox_ok (T.c.fact 4 (f := fOx famV "BadPath" "reason") rfl)
theorem ok_BadPath_init (T : Tx fa fn K mg) : Fn gd P w K mg base 1 (aM "BadPath" "__init__" K) [] (spErr (ga K "BadPath") "reason") := by
  obtain ⟨fd, F⟩ := F_BadPath_init T
  have bs := base_ok (T.c.fact 2 (f := fBase "Invalid" "__init__" famV.initId) rfl)
  refine fn_all F sc_BadPath_init (fun vs H Q E h => ?_) (b_BadPath_init F) (fun cdv A outer s H vs Q E hr h => ⟨_, pss_cons (ps_expr (pe_base (fm := famV) rfl (T.glo (T.c.fact 3 (f := fGlo "Invalid") rfl)) bs.1 bs.2.1 bs.2.2 (pa_cons (pv 0) (pa_cons pe_str pa_nil)))) (pss_one (ps_err (fm := famV) (pv 0) (pv 1))), ?_⟩)
  · obtain ⟨_, _, e, _⟩ := h; subst e; rfl
  obtain ⟨a, v, rfl, ha, q⟩ := h
  try simp only [cxK, r_lam, r_dnew, r_err, r_base, r_serr, r_var, r_c, r_seq, r_next, r_break, r_cont, r_drop, r_ret, r_retN, r_if, r_ife, r_asg, r_name, r_op, r_un, r_nil, r_cons, r_lst2, r_tup2, r_lc, r_for, r_ilist, r_itup, r_istr, r_irng1, r_irng2, r_ienum, r_ienumS, wipe, r_cb, r_test, r_b, r_not, r_notV, r_andV, r_orV, r_isN, r_notN, r_m1, r_m0, r_fld, sFld, putF, r_par, r_sub, r_gtup, r_gnil, r_gcons, r_sl, r_nopart, r_part, r_bm, r_bm0, r_chain, r_call, r_callK, r_meth, r_prop, r_make, r_and, r_or, andT_t, andT_f, orT_t, orT_f, ifK_t, ifK_f, ifE_t, ifE_f, andK_t, andK_f, orK_t, orK_f, L2.start, List.map_cons, List.map_nil, List.length_cons, List.length_nil, List.replicate_succ, List.replicate_zero, List.cons_append, List.nil_append, List.getElem?_cons_succ, List.getElem?_cons_zero, List.set_cons_succ, List.set_cons_zero, Nat.reduceAdd, Nat.reduceSub, Nat.zero_add, decide_true, decide_false, Bool.not_true, Bool.not_false, if_true, if_false, rEq, rNe, scal_ii, scal_ss, scal_bb, scal_is, scal_si, scal_ns, scal_ni, scal_in, scal_sn, scal_nn, rI, rI0, rU, rIxLH, rIxTH, rLenH, rLenTH, rSetL, rCatN, rTupOfN, rLstOfN, rSlLN, rSlTN, CDiv, CPow, CMul, CDivW, rNeNil, rLenO, rSplitN, rRepN, r_replC, rMulS, r_methK, rRepTN, r_cmK, rCmpO, Bool.false_xor, Bool.true_xor, r_starT, r_starL, r_cm, r_cval, selK_t, selK_f, rAppend, rIsK, reduceCtorEq, upd_same, at0, at1, at2, at3, at4, at5, at6, at7, at8, at9, at10, at11, at12, at13, ix3_0, ix3_1, ix3_2, V.int.injEq, V.bl.injEq, V.str.injEq, V.ref.injEq, Option.some.injEq, HO.lst.injEq, HO.tup.injEq, HO.ins.injEq, List.cons.injEq, and_true, true_and, exists_eq_left, exists_eq_left', exists_and_left, exists_eq', exists_eq, and_assoc, N_BadPath_init]
  exact ⟨_, ha, (ox_BadPath T).c, by simp, _, ha, (ox_BadPath T).c, (ox_BadPath T).no, q⟩
theorem ox_BadNumber (T : Tx fa fn K mg) : OxF famV K (ga K "BadNumber") (ma K (ga K "BadNumber") "__init__") "reason" := ox_ok (T.c.fact 5 (f := fOx famV "BadNumber" "reason") rfl)
theorem ok_BadNumber_init (T : Tx fa fn K mg) : Fn gd P w K mg base 1 (aM "BadNumber" "__init__" K) [] (spErr (ga K "BadNumber") "reason") := by
  obtain ⟨fd, F⟩ := F_BadNumber_init T
  have bs := base_ok (T.c.fact 2 (f := fBase "Invalid" "__init__" famV.initId) rfl)
  refine fn_all F sc_BadNumber_init (fun vs H Q E h => ?_) (b_BadNumber_init F) (fun cdv A outer s H vs Q E hr h => ⟨_, pss_cons (ps_expr (pe_base (fm := famV) rfl (T.glo (T.c.fact 3 (f := fGlo "Invalid") rfl)) bs.1 bs.2.1 bs.2.2 (pa_cons (pv 0) (pa_cons pe_str pa_nil)))) (pss_one (ps_err (fm := famV) (pv 0) (pv 1))), ?_⟩)
  · obtain ⟨_, _, e, _⟩ := h; subst e; rfl
  obtain ⟨a, v, rfl, ha, q⟩ := h
  try simp only [cxK, r_lam, r_dnew, r_err, r_base, r_serr, r_var, r_c, r_seq, r_next, r_break, r_cont, r_drop, r_ret, r_retN, r_if, r_ife, r_asg, r_name, r_op, r_un, r_nil, r_cons, r_lst2, r_tup2, r_lc, r_for, r_ilist, r_itup, r_istr, r_irng1, r_irng2, r_ienum, r_ienumS, wipe, r_cb, r_test, r_b, r_not, r_notV, r_andV, r_orV, r_isN, r_notN, r_m1, r_m0, r_fld, sFld, putF, r_par, r_sub, r_gtup, r_gnil, r_gcons, r_sl, r_nopart, r_part, r_bm, r_bm0, r_chain, r_call, r_callK, r_meth, r_prop, r_make, r_and, r_or, andT_t, andT_f, orT_t, orT_f, ifK_t, ifK_f, ifE_t, ifE_f, andK_t, andK_f, orK_t, orK_f, L2.start, List.map_cons, List.map_nil, List.length_cons, List.length_nil, List.replicate_succ, List.replicate_zero, List.cons_append, List.nil_append, List.getElem?_cons_succ, List.getElem?_cons_zero, List.set_cons_succ, List.set_cons_zero, Nat.reduceAdd, Nat.reduceSub, Nat.zero_add, decide_true, decide_false, Bool.not_true, Bool.not_false, if_true, if_false, rEq, rNe, scal_ii, scal_ss, scal_bb, scal_is, scal_si, scal_ns, scal_ni, scal_in, scal_sn, scal_nn, rI, rI0, rU, rIxLH, rIxTH, rLenH, rLenTH, rSetL, rCatN, rTupOfN, rLstOfN, rSlLN, rSlTN, CDiv, CPow, CMul, CDivW, rNeNil, rLenO, rSplitN, rRepN, r_replC, rMulS, r_methK, rRepTN, r_cmK, rCmpO, Bool.false_xor, Bool.true_xor, r_starT, r_starL, r_cm, r_cval, selK_t, selK_f, rAppend, rIsK, reduceCtorEq, upd_same, at0, at1, at2, at3, at4, at5, at6, at7, at8, at9, at10, at11, at12, at13, ix3_0, ix3_1, ix3_2, V.int.injEq, V.bl.injEq, V.str.injEq, V.ref.injEq, Option.some.injEq, HO.lst.injEq, HO.tup.injEq, HO.ins.injEq, List.cons.injEq, and_true, true_and, exists_eq_left, exists_eq_left', exists_and_left, exists_eq', exists_eq, and_assoc, N_BadNumber_init]
  exact ⟨_, ha, (ox_BadNumber T).c, by simp, _, ha, (ox_BadNumber T).c, (ox_BadNumber T).no, q⟩

end

section
variable {gd : Bool} {P : Program} {w : World} {K : PySem.W.Frag} {mg : Str → Option Value} {base : Heap}

/-- a good name -/
def isNm (z : Str) : Bool := (decide (1 ≤ z.length) && decide (z.length ≤ 12)) && (!(z == pt1 || z == pt2)) && z.cps.toList.all fun c => decide (c ∈ sgns)
def spIsName : Sp := fun vs H Q _ => ∃ z : Str, vs = [.str z] ∧ z.cps.size ≤ 16000000 ∧ ∀ H', Same H H' → Q (.bl (isNm z)) H'
theorem ok_is_name (T : Tx fa fn K mg) : Fn gd P w K mg base 1 (aG "is_name" K) [] spIsName := by
  obtain ⟨fd, F⟩ := F_is_name T
  refine fn_all F sc_is_name (fun vs H Q E h => ?_) (b_is_name F) (fun cdv A outer s H vs Q E hr h => ⟨_, (pss_cons (ps_if (PW.pt (pw_or (pt_not (pt_val (pe_callB call_isi (by rfl) (T.free (T.c.fact 9 (f := fFree "isinstance") rfl)) (by decide +kernel) (pa_cons (pv 0) (pa_cons (pe_bltn (v := .ty "str") (by rfl) (T.free (T.c.fact 10 (f := fFree "str") rfl)) (by decide +kernel) rfl) pa_nil))))) (pw_or (pt_not (pt_chain op_le op_le pe_int (pe_callB call_len_str (by rfl) (T.free (T.c.fact 0 (f := fFree "len") rfl)) (by decide +kernel) (pa_cons (pv 0) pa_nil)) (pe_gint rfl (T.int (T.c.fact 8 (f := fInt "MAX_NAME" (12)) rfl))))) (pw_or1 (pt_cmpR op_in_seq (pv 0) (pe_tup (pa_cons pe_str (pa_cons pe_str pa_nil))) rfl)))))
 (pss_one (ps_ret pe_bl))
 pss_nil)
 (pss_one (ps_ret (pe_callB (cr_all rfl) (by rfl) (T.free (T.c.fact 6 (f := fFree "all") rfl)) (by decide +kernel) (pa_cons (pe_lc (own := [("sign", 1)]) (g := gName 1) (tt := tYes) rfl sc_is_name.nd (pi_str (pv 0)) (blkOk_by (own := [("sign", 1)]) (N := N_is_name) (sc := defScope s_is_name) (by decide +kernel)) (fun _ _ _ _ _ => (pg_name (i := 1) sc_is_name.nd rfl (Or.inl rfl))) (fun _ _ _ _ _ => pts_nil) (fun _ _ _ _ _ => (pe_cmpR op_in_sign (pv 1) (pe_gstr rfl (T.str (T.c.fact 7 (f := fStr "NAME_SIGNS" "abcdefghijklmnopqrstuvwxyz0123456789_-.") rfl))) rfl))) pa_nil))))), ?_⟩)
  · first | (obtain ⟨_, e, _⟩ := h; subst e; rfl) | (obtain ⟨_, _, e, _⟩ := h; subst e; rfl) | (obtain ⟨_, _, _, e, _⟩ := h; subst e; rfl) | (obtain ⟨_, _, _, _, e, _⟩ := h; subst e; rfl) | (obtain ⟨_, _, _, _, _, e, _⟩ := h; subst e; rfl) | (obtain ⟨_, _, _, _, _, _, e, _⟩ := h; subst e; rfl) | (obtain ⟨_, _, _, _, _, _, _, e, _⟩ := h; subst e; rfl) | (obtain ⟨_, _, _, _, _, _, _, _, e, _⟩ := h; subst e; rfl) | (obtain ⟨_, _, _, _, _, _, _, _, _, e, _⟩ := h; subst e; rfl) | (obtain ⟨_, _, _, _, _, _, _, _, _, _, e, _⟩ := h; subst e; rfl) | (obtain ⟨_, _, _, _, _, _, _, _, _, _, _, e, _⟩ := h; subst e; rfl)
  obtain ⟨z, rfl, hz, q⟩ := h
  try simp only [cxK, r_lam, r_dnew, r_err, r_base, r_serr, r_var, r_c, r_seq, r_next, r_break, r_cont, r_drop, r_ret, r_retN, r_if, r_ife, r_asg, r_name, r_op, r_un, r_nil, r_cons, r_lst2, r_tup2, r_lc, r_for, r_ilist, r_itup, r_istr, r_irng1, r_irng2, r_ienum, r_ienumS, wipe, r_cb, r_test, r_b, r_not, r_notV, r_andV, r_orV, r_isN, r_notN, r_m1, r_m0, r_fld, sFld, putF, r_par, r_sub, r_gtup, r_gnil, r_gcons, r_sl, r_nopart, r_part, r_bm, r_bm0, r_chain, r_call, r_callK, r_meth, r_prop, r_make, r_and, r_or, andT_t, andT_f, orT_t, orT_f, ifK_t, ifK_f, ifE_t, ifE_f, andK_t, andK_f, orK_t, orK_f, L2.start, List.map_cons, List.map_nil, List.length_cons, List.length_nil, List.replicate_succ, List.replicate_zero, List.cons_append, List.nil_append, List.getElem?_cons_succ, List.getElem?_cons_zero, List.set_cons_succ, List.set_cons_zero, Nat.reduceAdd, Nat.reduceSub, Nat.zero_add, decide_true, decide_false, Bool.not_true, Bool.not_false, if_true, if_false, rEq, rNe, scal_ii, scal_ss, scal_bb, scal_is, scal_si, scal_ns, scal_ni, scal_in, scal_sn, scal_nn, rI, rI0, rU, rIxLH, rIxTH, rLenH, rLenTH, rSetL, rCatN, rTupOfN, rLstOfN, rSlLN, rSlTN, CDiv, CPow, CMul, CDivW, rNeNil, rLenO, rSplitN, rRepN, r_replC, rMulS, r_methK, rRepTN, r_cmK, rCmpO, Bool.false_xor, Bool.true_xor, r_starT, r_starL, r_cm, r_cval, selK_t, selK_f, rAppend, rIsK, reduceCtorEq, upd_same, at0, at1, at2, at3, at4, at5, at6, at7, at8, at9, at10, at11, at12, at13, ix3_0, ix3_1, ix3_2, V.int.injEq, V.bl.injEq, V.str.injEq, V.ref.injEq, Option.some.injEq, HO.lst.injEq, HO.tup.injEq, HO.ins.injEq, List.cons.injEq, and_true, true_and, exists_eq_left, exists_eq_left', exists_and_left, exists_eq', exists_eq, and_assoc, N_is_name]
  refine isi_ty (r := true) (.str z) (by decide +kernel) ?_
  try simp only [cxK, r_lam, r_dnew, r_err, r_base, r_serr, r_var, r_c, r_seq, r_next, r_break, r_cont, r_drop, r_ret, r_retN, r_if, r_ife, r_asg, r_name, r_op, r_un, r_nil, r_cons, r_lst2, r_tup2, r_lc, r_for, r_ilist, r_itup, r_istr, r_irng1, r_irng2, r_ienum, r_ienumS, wipe, r_cb, r_test, r_b, r_not, r_notV, r_andV, r_orV, r_isN, r_notN, r_m1, r_m0, r_fld, sFld, putF, r_par, r_sub, r_gtup, r_gnil, r_gcons, r_sl, r_nopart, r_part, r_bm, r_bm0, r_chain, r_call, r_callK, r_meth, r_prop, r_make, r_and, r_or, andT_t, andT_f, orT_t, orT_f, ifK_t, ifK_f, ifE_t, ifE_f, andK_t, andK_f, orK_t, orK_f, L2.start, List.map_cons, List.map_nil, List.length_cons, List.length_nil, List.replicate_succ, List.replicate_zero, List.cons_append, List.nil_append, List.getElem?_cons_succ, List.getElem?_cons_zero, List.set_cons_succ, List.set_cons_zero, Nat.reduceAdd, Nat.reduceSub, Nat.zero_add, decide_true, decide_false, Bool.not_true, Bool.not_false, if_true, if_false, rEq, rNe, scal_ii, scal_ss, scal_bb, scal_is, scal_si, scal_ns, scal_ni, scal_in, scal_sn, scal_nn, rI, rI0, rU, rIxLH, rIxTH, rLenH, rLenTH, rSetL, rCatN, rTupOfN, rLstOfN, rSlLN, rSlTN, CDiv, CPow, CMul, CDivW, rNeNil, rLenO, rSplitN, rRepN, r_replC, rMulS, r_methK, rRepTN, r_cmK, rCmpO, Bool.false_xor, Bool.true_xor, r_starT, r_starL, r_cm, r_cval, selK_t, selK_f, rAppend, rIsK, reduceCtorEq, upd_same, at0, at1, at2, at3, at4, at5, at6, at7, at8, at9, at10, at11, at12, at13, ix3_0, ix3_1, ix3_2, V.int.injEq, V.bl.injEq, V.str.injEq, V.ref.injEq, Option.some.injEq, HO.lst.injEq, HO.tup.injEq, HO.ins.injEq, List.cons.injEq, and_true, true_and, exists_eq_left, exists_eq_left', exists_and_left, exists_eq', exists_eq, and_assoc, N_is_name]
  have hl : z.length = z.cps.size := rfl
  by_cases h1 : (1 : Int) ≤ z.length
  · try simp only [cxK, r_lam, r_dnew, r_err, r_base, r_serr, r_var, r_c, r_seq, r_next, r_break, r_cont, r_drop, r_ret, r_retN, r_if, r_ife, r_asg, r_name, r_op, r_un, r_nil, r_cons, r_lst2, r_tup2, r_lc, r_for, r_ilist, r_itup, r_istr, r_irng1, r_irng2, r_ienum, r_ienumS, wipe, r_cb, r_test, r_b, r_not, r_notV, r_andV, r_orV, r_isN, r_notN, r_m1, r_m0, r_fld, sFld, putF, r_par, r_sub, r_gtup, r_gnil, r_gcons, r_sl, r_nopart, r_part, r_bm, r_bm0, r_chain, r_call, r_callK, r_meth, r_prop, r_make, r_and, r_or, andT_t, andT_f, orT_t, orT_f, ifK_t, ifK_f, ifE_t, ifE_f, andK_t, andK_f, orK_t, orK_f, L2.start, List.map_cons, List.map_nil, List.length_cons, List.length_nil, List.replicate_succ, List.replicate_zero, List.cons_append, List.nil_append, List.getElem?_cons_succ, List.getElem?_cons_zero, List.set_cons_succ, List.set_cons_zero, Nat.reduceAdd, Nat.reduceSub, Nat.zero_add, decide_true, decide_false, Bool.not_true, Bool.not_false, if_true, if_false, rEq, rNe, scal_ii, scal_ss, scal_bb, scal_is, scal_si, scal_ns, scal_ni, scal_in, scal_sn, scal_nn, rI, rI0, rU, rIxLH, rIxTH, rLenH, rLenTH, rSetL, rCatN, rTupOfN, rLstOfN, rSlLN, rSlTN, CDiv, CPow, CMul, CDivW, rNeNil, rLenO, rSplitN, rRepN, r_replC, rMulS, r_methK, rRepTN, r_cmK, rCmpO, Bool.false_xor, Bool.true_xor, r_starT, r_starL, r_cm, r_cval, selK_t, selK_f, rAppend, rIsK, reduceCtorEq, upd_same, at0, at1, at2, at3, at4, at5, at6, at7, at8, at9, at10, at11, at12, at13, ix3_0, ix3_1, ix3_2, V.int.injEq, V.bl.injEq, V.str.injEq, V.ref.injEq, Option.some.injEq, HO.lst.injEq, HO.tup.injEq, HO.ins.injEq, List.cons.injEq, and_true, true_and, exists_eq_left, exists_eq_left', exists_and_left, exists_eq', exists_eq, and_assoc, N_is_name, h1]
    refine ⟨fits (by rw [hl]; omega), ?_⟩
    by_cases h2 : (z.length : Int) ≤ 12
    · try simp only [cxK, r_lam, r_dnew, r_err, r_base, r_serr, r_var, r_c, r_seq, r_next, r_break, r_cont, r_drop, r_ret, r_retN, r_if, r_ife, r_asg, r_name, r_op, r_un, r_nil, r_cons, r_lst2, r_tup2, r_lc, r_for, r_ilist, r_itup, r_istr, r_irng1, r_irng2, r_ienum, r_ienumS, wipe, r_cb, r_test, r_b, r_not, r_notV, r_andV, r_orV, r_isN, r_notN, r_m1, r_m0, r_fld, sFld, putF, r_par, r_sub, r_gtup, r_gnil, r_gcons, r_sl, r_nopart, r_part, r_bm, r_bm0, r_chain, r_call, r_callK, r_meth, r_prop, r_make, r_and, r_or, andT_t, andT_f, orT_t, orT_f, ifK_t, ifK_f, ifE_t, ifE_f, andK_t, andK_f, orK_t, orK_f, L2.start, List.map_cons, List.map_nil, List.length_cons, List.length_nil, List.replicate_succ, List.replicate_zero, List.cons_append, List.nil_append, List.getElem?_cons_succ, List.getElem?_cons_zero, List.set_cons_succ, List.set_cons_zero, Nat.reduceAdd, Nat.reduceSub, Nat.zero_add, decide_true, decide_false, Bool.not_true, Bool.not_false, if_true, if_false, rEq, rNe, scal_ii, scal_ss, scal_bb, scal_is, scal_si, scal_ns, scal_ni, scal_in, scal_sn, scal_nn, rI, rI0, rU, rIxLH, rIxTH, rLenH, rLenTH, rSetL, rCatN, rTupOfN, rLstOfN, rSlLN, rSlTN, CDiv, CPow, CMul, CDivW, rNeNil, rLenO, rSplitN, rRepN, r_replC, rMulS, r_methK, rRepTN, r_cmK, rCmpO, Bool.false_xor, Bool.true_xor, r_starT, r_starL, r_cm, r_cval, selK_t, selK_f, rAppend, rIsK, reduceCtorEq, upd_same, at0, at1, at2, at3, at4, at5, at6, at7, at8, at9, at10, at11, at12, at13, ix3_0, ix3_1, ix3_2, V.int.injEq, V.bl.injEq, V.str.injEq, V.ref.injEq, Option.some.injEq, HO.lst.injEq, HO.tup.injEq, HO.ins.injEq, List.cons.injEq, and_true, true_and, exists_eq_left, exists_eq_left', exists_and_left, exists_eq', exists_eq, and_assoc, N_is_name, h2]
      refine ⟨fits (by decide), fun p H1 n1 => ?_⟩
      refine ⟨p, _, rfl, Or.inr (SqT.of n1.at_), rfl, rfl, ?_⟩
      have e : inV (V.str z) [V.str (PySem.Str.ofString "."), V.str (PySem.Str.ofString "..")] = (z == pt1 || z == pt2) := by
        rw [pt1_eq, pt2_eq]
        show ((pt1 == z) || ((pt2 == z) || false)) = _
        rw [Bool.or_false, BEq.comm (a := pt1), BEq.comm (a := pt2)]
      rw [if_neg Bool.false_ne_true, e]
      cases h3 : (z == pt1 || z == pt2) with
      | true =>
        try simp only [cxK, r_lam, r_dnew, r_err, r_base, r_serr, r_var, r_c, r_seq, r_next, r_break, r_cont, r_drop, r_ret, r_retN, r_if, r_ife, r_asg, r_name, r_op, r_un, r_nil, r_cons, r_lst2, r_tup2, r_lc, r_for, r_ilist, r_itup, r_istr, r_irng1, r_irng2, r_ienum, r_ienumS, wipe, r_cb, r_test, r_b, r_not, r_notV, r_andV, r_orV, r_isN, r_notN, r_m1, r_m0, r_fld, sFld, putF, r_par, r_sub, r_gtup, r_gnil, r_gcons, r_sl, r_nopart, r_part, r_bm, r_bm0, r_chain, r_call, r_callK, r_meth, r_prop, r_make, r_and, r_or, andT_t, andT_f, orT_t, orT_f, ifK_t, ifK_f, ifE_t, ifE_f, andK_t, andK_f, orK_t, orK_f, L2.start, List.map_cons, List.map_nil, List.length_cons, List.length_nil, List.replicate_succ, List.replicate_zero, List.cons_append, List.nil_append, List.getElem?_cons_succ, List.getElem?_cons_zero, List.set_cons_succ, List.set_cons_zero, Nat.reduceAdd, Nat.reduceSub, Nat.zero_add, decide_true, decide_false, Bool.not_true, Bool.not_false, if_true, if_false, rEq, rNe, scal_ii, scal_ss, scal_bb, scal_is, scal_si, scal_ns, scal_ni, scal_in, scal_sn, scal_nn, rI, rI0, rU, rIxLH, rIxTH, rLenH, rLenTH, rSetL, rCatN, rTupOfN, rLstOfN, rSlLN, rSlTN, CDiv, CPow, CMul, CDivW, rNeNil, rLenO, rSplitN, rRepN, r_replC, rMulS, r_methK, rRepTN, r_cmK, rCmpO, Bool.false_xor, Bool.true_xor, r_starT, r_starL, r_cm, r_cval, selK_t, selK_f, rAppend, rIsK, reduceCtorEq, upd_same, at0, at1, at2, at3, at4, at5, at6, at7, at8, at9, at10, at11, at12, at13, ix3_0, ix3_1, ix3_2, V.int.injEq, V.bl.injEq, V.str.injEq, V.ref.injEq, Option.some.injEq, HO.lst.injEq, HO.tup.injEq, HO.ins.injEq, List.cons.injEq, and_true, true_and, exists_eq_left, exists_eq_left', exists_and_left, exists_eq', exists_eq, and_assoc, N_is_name]
        have z3 := q H1 n1.same
        have e4 : isNm z = false := by unfold isNm; rw [h3]; simp
        rw [e4] at z3
        exact z3
      | false =>
        try simp only [cxK, r_lam, r_dnew, r_err, r_base, r_serr, r_var, r_c, r_seq, r_next, r_break, r_cont, r_drop, r_ret, r_retN, r_if, r_ife, r_asg, r_name, r_op, r_un, r_nil, r_cons, r_lst2, r_tup2, r_lc, r_for, r_ilist, r_itup, r_istr, r_irng1, r_irng2, r_ienum, r_ienumS, wipe, r_cb, r_test, r_b, r_not, r_notV, r_andV, r_orV, r_isN, r_notN, r_m1, r_m0, r_fld, sFld, putF, r_par, r_sub, r_gtup, r_gnil, r_gcons, r_sl, r_nopart, r_part, r_bm, r_bm0, r_chain, r_call, r_callK, r_meth, r_prop, r_make, r_and, r_or, andT_t, andT_f, orT_t, orT_f, ifK_t, ifK_f, ifE_t, ifE_f, andK_t, andK_f, orK_t, orK_f, L2.start, List.map_cons, List.map_nil, List.length_cons, List.length_nil, List.replicate_succ, List.replicate_zero, List.cons_append, List.nil_append, List.getElem?_cons_succ, List.getElem?_cons_zero, List.set_cons_succ, List.set_cons_zero, Nat.reduceAdd, Nat.reduceSub, Nat.zero_add, decide_true, decide_false, Bool.not_true, Bool.not_false, if_true, if_false, rEq, rNe, scal_ii, scal_ss, scal_bb, scal_is, scal_si, scal_ns, scal_ni, scal_in, scal_sn, scal_nn, rI, rI0, rU, rIxLH, rIxTH, rLenH, rLenTH, rSetL, rCatN, rTupOfN, rLstOfN, rSlLN, rSlTN, CDiv, CPow, CMul, CDivW, rNeNil, rLenO, rSplitN, rRepN, r_replC, rMulS, r_methK, rRepTN, r_cmK, rCmpO, Bool.false_xor, Bool.true_xor, r_starT, r_starL, r_cm, r_cval, selK_t, selK_f, rAppend, rIsK, reduceCtorEq, upd_same, at0, at1, at2, at3, at4, at5, at6, at7, at8, at9, at10, at11, at12, at13, ix3_0, ix3_1, ix3_2, V.int.injEq, V.bl.injEq, V.str.injEq, V.ref.injEq, Option.some.injEq, HO.lst.injEq, HO.tup.injEq, HO.ins.injEq, List.cons.injEq, and_true, true_and, exists_eq_left, exists_eq_left', exists_and_left, exists_eq', exists_eq, and_assoc, N_is_name]
        refine lcK_it walk_str (fun D i acc H' => Same H H' ∧ acc = ((z.cps.toList.map fun c => decide (c ∈ sgns)).take i).map V.bl) ?_ (fun _ _ _ _ _ _ _ _ => trivial) ?_ ?_
        · intro D H0 n0
          exact ⟨same_trans n1.same n0.same, rfl⟩
        · rintro D i x acc H2 H3 nD hi hD hl3 ⟨sm, ea⟩ ⟨rfl, c, hc, rfl⟩
          try simp only [cxK, r_lam, r_dnew, r_err, r_base, r_serr, r_var, r_c, r_seq, r_next, r_break, r_cont, r_drop, r_ret, r_retN, r_if, r_ife, r_asg, r_name, r_op, r_un, r_nil, r_cons, r_lst2, r_tup2, r_lc, r_for, r_ilist, r_itup, r_istr, r_irng1, r_irng2, r_ienum, r_ienumS, wipe, r_cb, r_test, r_b, r_not, r_notV, r_andV, r_orV, r_isN, r_notN, r_m1, r_m0, r_fld, sFld, putF, r_par, r_sub, r_gtup, r_gnil, r_gcons, r_sl, r_nopart, r_part, r_bm, r_bm0, r_chain, r_call, r_callK, r_meth, r_prop, r_make, r_and, r_or, andT_t, andT_f, orT_t, orT_f, ifK_t, ifK_f, ifE_t, ifE_f, andK_t, andK_f, orK_t, orK_f, L2.start, List.map_cons, List.map_nil, List.length_cons, List.length_nil, List.replicate_succ, List.replicate_zero, List.cons_append, List.nil_append, List.getElem?_cons_succ, List.getElem?_cons_zero, List.set_cons_succ, List.set_cons_zero, Nat.reduceAdd, Nat.reduceSub, Nat.zero_add, decide_true, decide_false, Bool.not_true, Bool.not_false, if_true, if_false, rEq, rNe, scal_ii, scal_ss, scal_bb, scal_is, scal_si, scal_ns, scal_ni, scal_in, scal_sn, scal_nn, rI, rI0, rU, rIxLH, rIxTH, rLenH, rLenTH, rSetL, rCatN, rTupOfN, rLstOfN, rSlLN, rSlTN, CDiv, CPow, CMul, CDivW, rNeNil, rLenO, rSplitN, rRepN, r_replC, rMulS, r_methK, rRepTN, r_cmK, rCmpO, Bool.false_xor, Bool.true_xor, r_starT, r_starL, r_cm, r_cval, selK_t, selK_f, rAppend, rIsK, reduceCtorEq, upd_same, at0, at1, at2, at3, at4, at5, at6, at7, at8, at9, at10, at11, at12, at13, ix3_0, ix3_1, ix3_2, V.int.injEq, V.bl.injEq, V.str.injEq, V.ref.injEq, Option.some.injEq, HO.lst.injEq, HO.tup.injEq, HO.ins.injEq, List.cons.injEq, and_true, true_and, exists_eq_left, exists_eq_left', exists_and_left, exists_eq', exists_eq, and_assoc, N_is_name, sign_eq]
          refine ⟨c, rfl, addK_mk hD hl3 (by omega) ⟨fun b o hb => ?_, ?_⟩⟩
          · rw [upd_ne (fun zz => by subst zz; rw [n1.old hb] at nD; cases nD)]
            exact sm b o hb
          · have hc2 : z.cps.toList[i]? = some c := by simpa using hc
            rw [ea, List.take_add_one, List.getElem?_map, hc2]
            simp
        · rintro D acc H2 nD hD hl2 ⟨sm, ea⟩
          have ea2 : acc = (z.cps.toList.map fun c => decide (c ∈ sgns)).map V.bl := by
            rw [ea, List.take_of_length_le (by simp)]
          rw [ea2] at hD
          refine ⟨D, _, rfl, SqL.of hD, ?_⟩
          have z3 := q H2 sm
          have e4 : isNm z = ((z.cps.toList.map fun c => decide (c ∈ sgns)).all id) := by
            unfold isNm
            rw [h3, List.all_map]
            have a1 : 1 ≤ z.length := by omega
            have a2 : z.length ≤ 12 := by omega
            simp [a1, a2]
          rw [e4] at z3
          exact z3
    · try simp only [cxK, r_lam, r_dnew, r_err, r_base, r_serr, r_var, r_c, r_seq, r_next, r_break, r_cont, r_drop, r_ret, r_retN, r_if, r_ife, r_asg, r_name, r_op, r_un, r_nil, r_cons, r_lst2, r_tup2, r_lc, r_for, r_ilist, r_itup, r_istr, r_irng1, r_irng2, r_ienum, r_ienumS, wipe, r_cb, r_test, r_b, r_not, r_notV, r_andV, r_orV, r_isN, r_notN, r_m1, r_m0, r_fld, sFld, putF, r_par, r_sub, r_gtup, r_gnil, r_gcons, r_sl, r_nopart, r_part, r_bm, r_bm0, r_chain, r_call, r_callK, r_meth, r_prop, r_make, r_and, r_or, andT_t, andT_f, orT_t, orT_f, ifK_t, ifK_f, ifE_t, ifE_f, andK_t, andK_f, orK_t, orK_f, L2.start, List.map_cons, List.map_nil, List.length_cons, List.length_nil, List.replicate_succ, List.replicate_zero, List.cons_append, List.nil_append, List.getElem?_cons_succ, List.getElem?_cons_zero, List.set_cons_succ, List.set_cons_zero, Nat.reduceAdd, Nat.reduceSub, Nat.zero_add, decide_true, decide_false, Bool.not_true, Bool.not_false, if_true, if_false, rEq, rNe, scal_ii, scal_ss, scal_bb, scal_is, scal_si, scal_ns, scal_ni, scal_in, scal_sn, scal_nn, rI, rI0, rU, rIxLH, rIxTH, rLenH, rLenTH, rSetL, rCatN, rTupOfN, rLstOfN, rSlLN, rSlTN, CDiv, CPow, CMul, CDivW, rNeNil, rLenO, rSplitN, rRepN, r_replC, rMulS, r_methK, rRepTN, r_cmK, rCmpO, Bool.false_xor, Bool.true_xor, r_starT, r_starL, r_cm, r_cval, selK_t, selK_f, rAppend, rIsK, reduceCtorEq, upd_same, at0, at1, at2, at3, at4, at5, at6, at7, at8, at9, at10, at11, at12, at13, ix3_0, ix3_1, ix3_2, V.int.injEq, V.bl.injEq, V.str.injEq, V.ref.injEq, Option.some.injEq, HO.lst.injEq, HO.tup.injEq, HO.ins.injEq, List.cons.injEq, and_true, true_and, exists_eq_left, exists_eq_left', exists_and_left, exists_eq', exists_eq, and_assoc, N_is_name, h2]
      have z3 := q H same_refl
      have e4 : isNm z = false := by unfold isNm; have : ¬ z.length ≤ 12 := by omega
                                     simp [this]
      rw [e4] at z3
      exact z3
  · try simp only [cxK, r_lam, r_dnew, r_err, r_base, r_serr, r_var, r_c, r_seq, r_next, r_break, r_cont, r_drop, r_ret, r_retN, r_if, r_ife, r_asg, r_name, r_op, r_un, r_nil, r_cons, r_lst2, r_tup2, r_lc, r_for, r_ilist, r_itup, r_istr, r_irng1, r_irng2, r_ienum, r_ienumS, wipe, r_cb, r_test, r_b, r_not, r_notV, r_andV, r_orV, r_isN, r_notN, r_m1, r_m0, r_fld, sFld, putF, r_par, r_sub, r_gtup, r_gnil, r_gcons, r_sl, r_nopart, r_part, r_bm, r_bm0, r_chain, r_call, r_callK, r_meth, r_prop, r_make, r_and, r_or, andT_t, andT_f, orT_t, orT_f, ifK_t, ifK_f, ifE_t, ifE_f, andK_t, andK_f, orK_t, orK_f, L2.start, List.map_cons, List.map_nil, List.length_cons, List.length_nil, List.replicate_succ, List.replicate_zero, List.cons_append, List.nil_append, List.getElem?_cons_succ, List.getElem?_cons_zero, List.set_cons_succ, List.set_cons_zero, Nat.reduceAdd, Nat.reduceSub, Nat.zero_add, decide_true, decide_false, Bool.not_true, Bool.not_false, if_true, if_false, rEq, rNe, scal_ii, scal_ss, scal_bb, scal_is, scal_si, scal_ns, scal_ni, scal_in, scal_sn, scal_nn, rI, rI0, rU, rIxLH, rIxTH, rLenH, rLenTH, rSetL, rCatN, rTupOfN, rLstOfN, rSlLN, rSlTN, CDiv, CPow, CMul, CDivW, rNeNil, rLenO, rSplitN, rRepN, r_replC, rMulS, r_methK, rRepTN, r_cmK, rCmpO, Bool.false_xor, Bool.true_xor, r_starT, r_starL, r_cm, r_cval, selK_t, selK_f, rAppend, rIsK, reduceCtorEq, upd_same, at0, at1, at2, at3, at4, at5, at6, at7, at8, at9, at10, at11, at12, at13, ix3_0, ix3_1, ix3_2, V.int.injEq, V.bl.injEq, V.str.injEq, V.ref.injEq, Option.some.injEq, HO.lst.injEq, HO.tup.injEq, HO.ins.injEq, List.cons.injEq, and_true, true_and, exists_eq_left, exists_eq_left', exists_and_left, exists_eq', exists_eq, and_assoc, N_is_name, h1]
    refine ⟨fits (by rw [hl]; omega), ?_⟩
    have z3 := q H same_refl
    have e4 : isNm z = false := by unfold isNm; have : ¬ 1 ≤ z.length := by omega
                                   simp [this]
    rw [e4] at z3
    exact z3

/-- what a path's text is -/
def textOf (ns : List Str) : Str := if ns = [] then "/" else Txt.join "" (ns.map fun n => "/" ++ n)
def Nms (ns : List Str) : Prop := ns.length ≤ 1000 ∧ ∀ x ∈ ns, PyData.strOk x = true ∧ x.length ≤ 1000
theorem Nms.ok {ns : List Str} (h : Nms ns) : ∀ x ∈ ns, PyData.strOk x = true := fun x hx => (h.2 x hx).1
theorem sum_le : ∀ (l : List Str) (m : Nat), (∀ x ∈ l, x.length ≤ m) → (l.map fun x => x.length).sum ≤ l.length * m
  | [], m, _ => by simp
  | x :: r, m, h => by
    have h1 := sum_le r m (fun y hy => h y (List.mem_cons_of_mem _ hy))
    have h2 := h x List.mem_cons_self
    simp only [List.map_cons, List.sum_cons, List.length_cons]
    rw [Nat.add_mul]
    omega
def spPlace : Sp := fun vs H Q _ => ∃ (t : Addr) (ns : List Str), vs = [.ref t] ∧ H t = some (.tup (ns.map V.str)) ∧ Nms ns ∧ ∀ H', Same H H' → Q (.str (textOf ns)) H'
theorem glue_fits {ns : List Str} (h : Nms ns) : ((ns.map fun n => (PySem.Str.ofString "/") ++ n).map fun x => x.length).sum + (ns.map fun n => (PySem.Str.ofString "/") ++ n).length * (PySem.Str.ofString "").length ≤ 16777216 := by
  have h1 := sum_le (ns.map fun n => (PySem.Str.ofString "/") ++ n) 1001 (fun x hx => by
    obtain ⟨y, hy, rfl⟩ := List.mem_map.mp hx
    have := (h.2 y hy).2
    rw [len_app]
    have e : (PySem.Str.ofString "/").length = 1 := by decide
    omega)
  have e : (PySem.Str.ofString "").length = 0 := by decide
  rw [e]
  rw [List.length_map] at h1
  have := h.1
  omega
/-- the parts of a name at its last point -/
def partsOf (z : Str) : Str × Str := if 0 < Txt.rfind z "." ∧ Txt.rfind z "." < (z.length : Int) - 1 then (cutS z none (some (Txt.rfind z ".")), cutS z (some (Txt.rfind z ".")) none) else (z, "")
def spParts : Sp := fun vs H Q _ => ∃ z : Str, vs = [.str z] ∧ z.length ≤ 16000000 ∧ ∀ H' t, Same H H' → H' t = some (.tup [.str (partsOf z).1, .str (partsOf z).2]) → Q (.ref t) H'
/-- a path of names at p -/
def IsPath (K : PySem.W.Frag) (H : Hp) (p : Addr) (ns : List Str) : Prop := ∃ dx t, H p = some (.ins (ga K "Path") dx [("names", .ref t)]) ∧ H t = some (.tup (ns.map V.str))
theorem IsPath.same {K : PySem.W.Frag} {H H' : Hp} {p : Addr} {ns : List Str} (h : IsPath K H p ns) (s : Same H H') : IsPath K H' p ns := let ⟨dx, t, a, b⟩ := h; ⟨dx, t, s _ _ a, s _ _ b⟩
theorem IsPath.oth {K : PySem.W.Frag} {H H' : Hp} {p a : Addr} {xs : List V} {ns : List Str} (h : IsPath K H p ns) (s : Oth a H H') (ha : H a = some (.lst xs)) : IsPath K H' p ns := by
  obtain ⟨dx, t, h1, h2⟩ := h
  refine ⟨dx, t, s _ _ (fun e => ?_) h1, s _ _ (fun e => ?_) h2⟩
  · subst e
    rw [ha] at h1
    cases h1
  · subst e
    rw [ha] at h2
    cases h2
theorem isNm_fits {z : Str} (h : isNm z = true) : z.length ≤ 12 ∧ PyData.strOk z = true ∧ 1 ≤ z.length := by
  unfold isNm at h
  simp only [Bool.and_eq_true, decide_eq_true_eq] at h
  obtain ⟨⟨⟨h1, h2⟩, _⟩, h3⟩ := h
  refine ⟨h2, ?_, h1⟩
  rw [ok_list]
  rw [List.all_eq_true] at h3 ⊢
  intro c hc
  have q := of_decide_eq_true (h3 c hc)
  have all : (sgns.all fun c => decide (c < 0x110000)) = true := by decide +kernel
  exact (List.all_eq_true.mp all) c q
def spInit (K : PySem.W.Frag) : Sp := fun vs H Q _ => ∃ (p t dx : Addr) (ns : List Str), vs = [.ref p, .ref t] ∧ H p = some (.ins (ga K "Path") dx []) ∧ H t = some (.tup (ns.map V.str)) ∧ ns.length ≤ 12 ∧ (∀ x ∈ ns, isNm x = true) ∧
  ∀ H', Same H H' → Q .non (upd H' p (.ins (ga K "Path") dx [("names", .ref t)]))
/-- what is no name, being no text -/
def Odd (H : Hp) (v : V) : Prop := v = .non ∨ (∃ i, v = .int i) ∨ (∃ b, v = .bl b) ∨ ∃ a xs, v = .ref a ∧ (H a = some (.tup xs) ∨ H a = some (.lst xs) ∨ ∃ kvs, H a = some (.dK kvs))
theorem Odd.same {H H' : Hp} {v : V} (h : Odd H v) (s : Same H H') : Odd H' v := by
  rcases h with h | h | h | ⟨a, xs, e, h | h | ⟨kvs, h⟩⟩
  · exact .inl h
  · exact .inr (.inl h)
  · exact .inr (.inr (.inl h))
  · exact .inr (.inr (.inr ⟨a, xs, e, .inl (s _ _ h)⟩))
  · exact .inr (.inr (.inr ⟨a, xs, e, .inr (.inl (s _ _ h))⟩))
  · exact .inr (.inr (.inr ⟨a, xs, e, .inr (.inr ⟨kvs, s _ _ h⟩)⟩))
theorem Odd.ty {K : PySem.W.Frag} {H : Hp} {v : V} (h : Odd H v) : ∃ t, TyOf K H v (.type t) ∧ kitB t "str" = some false := by
  rcases h with rfl | ⟨i, rfl⟩ | ⟨b, rfl⟩ | ⟨a, xs, rfl, h | h | ⟨kvs, h⟩⟩
  · exact ⟨_, .non, by decide +kernel⟩
  · exact ⟨_, .int i, by decide +kernel⟩
  · exact ⟨_, .bl b, by decide +kernel⟩
  · exact ⟨_, .tup h, by decide +kernel⟩
  · exact ⟨_, .lst h, by decide +kernel⟩
  · exact ⟨_, .dK h, by decide +kernel⟩
/-- v is a name: b -/
def NmV (H : Hp) (v : V) (b : Bool) : Prop := (∃ z, v = .str z ∧ z.cps.size ≤ 16000000 ∧ b = isNm z) ∨ (Odd H v ∧ b = false)
theorem NmV.same {H H' : Hp} {v : V} {b : Bool} (h : NmV H v b) (s : Same H H') : NmV H' v b := by
  rcases h with h | ⟨h, e⟩
  · exact .inl h
  · exact .inr ⟨h.same s, e⟩
def spNmV : Sp := fun vs H Q _ => ∃ (v : V) (b : Bool), vs = [v] ∧ NmV H v b ∧ ∀ H', Same H H' → Q (.bl b) H'
theorem ok_is_nameO (T : Tx fa fn K mg) : Fn gd P w K mg base 1 (aG "is_name" K) [] (fun vs H Q E => ∃ v, vs = [v] ∧ Odd H v ∧ Q (.bl false) H) := by
  obtain ⟨fd, F⟩ := F_is_name T
  refine fn_all F sc_is_name (fun vs H Q E h => ?_) (b_is_name F) (fun cdv A outer s H vs Q E hr h => ⟨_, (pss_cons (ps_if (PW.pt (pw_or (pt_not (pt_val (pe_callB call_isi (by rfl) (T.free (T.c.fact 9 (f := fFree "isinstance") rfl)) (by decide +kernel) (pa_cons (pv 0) (pa_cons (pe_bltn (v := .ty "str") (by rfl) (T.free (T.c.fact 10 (f := fFree "str") rfl)) (by decide +kernel) rfl) pa_nil))))) (pw_or (pt_not (pt_chain op_le op_le pe_int (pe_callB call_len_str (by rfl) (T.free (T.c.fact 0 (f := fFree "len") rfl)) (by decide +kernel) (pa_cons (pv 0) pa_nil)) (pe_gint rfl (T.int (T.c.fact 8 (f := fInt "MAX_NAME" (12)) rfl))))) (pw_or1 (pt_cmpR op_in_seq (pv 0) (pe_tup (pa_cons pe_str (pa_cons pe_str pa_nil))) rfl)))))
 (pss_one (ps_ret pe_bl))
 pss_nil)
 (pss_one (ps_ret (pe_callB (cr_all rfl) (by rfl) (T.free (T.c.fact 6 (f := fFree "all") rfl)) (by decide +kernel) (pa_cons (pe_lc (own := [("sign", 1)]) (g := gName 1) (tt := tYes) rfl sc_is_name.nd (pi_str (pv 0)) (blkOk_by (own := [("sign", 1)]) (N := N_is_name) (sc := defScope s_is_name) (by decide +kernel)) (fun _ _ _ _ _ => (pg_name (i := 1) sc_is_name.nd rfl (Or.inl rfl))) (fun _ _ _ _ _ => pts_nil) (fun _ _ _ _ _ => (pe_cmpR op_in_sign (pv 1) (pe_gstr rfl (T.str (T.c.fact 7 (f := fStr "NAME_SIGNS" "abcdefghijklmnopqrstuvwxyz0123456789_-.") rfl))) rfl))) pa_nil))))), ?_⟩)
  · first | (obtain ⟨_, e, _⟩ := h; subst e; rfl) | (obtain ⟨_, _, e, _⟩ := h; subst e; rfl) | (obtain ⟨_, _, _, e, _⟩ := h; subst e; rfl) | (obtain ⟨_, _, _, _, e, _⟩ := h; subst e; rfl) | (obtain ⟨_, _, _, _, _, e, _⟩ := h; subst e; rfl) | (obtain ⟨_, _, _, _, _, _, e, _⟩ := h; subst e; rfl) | (obtain ⟨_, _, _, _, _, _, _, e, _⟩ := h; subst e; rfl) | (obtain ⟨_, _, _, _, _, _, _, _, e, _⟩ := h; subst e; rfl) | (obtain ⟨_, _, _, _, _, _, _, _, _, e, _⟩ := h; subst e; rfl) | (obtain ⟨_, _, _, _, _, _, _, _, _, _, e, _⟩ := h; subst e; rfl) | (obtain ⟨_, _, _, _, _, _, _, _, _, _, _, e, _⟩ := h; subst e; rfl)
  obtain ⟨v, rfl, ho, q⟩ := h
  try simp only [cxK, r_lam, r_dnew, r_err, r_base, r_serr, r_var, r_c, r_seq, r_next, r_break, r_cont, r_drop, r_ret, r_retN, r_if, r_ife, r_asg, r_name, r_op, r_un, r_nil, r_cons, r_lst2, r_tup2, r_lc, r_for, r_ilist, r_itup, r_istr, r_irng1, r_irng2, r_ienum, r_ienumS, wipe, r_cb, r_test, r_b, r_not, r_notV, r_andV, r_orV, r_isN, r_notN, r_m1, r_m0, r_fld, sFld, putF, r_par, r_sub, r_gtup, r_gnil, r_gcons, r_sl, r_nopart, r_part, r_bm, r_bm0, r_chain, r_call, r_callK, r_meth, r_prop, r_make, r_and, r_or, andT_t, andT_f, orT_t, orT_f, ifK_t, ifK_f, ifE_t, ifE_f, andK_t, andK_f, orK_t, orK_f, L2.start, List.map_cons, List.map_nil, List.length_cons, List.length_nil, List.replicate_succ, List.replicate_zero, List.cons_append, List.nil_append, List.getElem?_cons_succ, List.getElem?_cons_zero, List.set_cons_succ, List.set_cons_zero, Nat.reduceAdd, Nat.reduceSub, Nat.zero_add, decide_true, decide_false, Bool.not_true, Bool.not_false, if_true, if_false, rEq, rNe, scal_ii, scal_ss, scal_bb, scal_is, scal_si, scal_ns, scal_ni, scal_in, scal_sn, scal_nn, rI, rI0, rU, rIxLH, rIxTH, rLenH, rLenTH, rSetL, rCatN, rTupOfN, rLstOfN, rSlLN, rSlTN, CDiv, CPow, CMul, CDivW, rNeNil, rLenO, rSplitN, rRepN, r_replC, rMulS, r_methK, rRepTN, r_cmK, rCmpO, Bool.false_xor, Bool.true_xor, r_starT, r_starL, r_cm, r_cval, selK_t, selK_f, rAppend, rIsK, reduceCtorEq, upd_same, at0, at1, at2, at3, at4, at5, at6, at7, at8, at9, at10, at11, at12, at13, ix3_0, ix3_1, ix3_2, V.int.injEq, V.bl.injEq, V.str.injEq, V.ref.injEq, Option.some.injEq, HO.lst.injEq, HO.tup.injEq, HO.ins.injEq, List.cons.injEq, and_true, true_and, exists_eq_left, exists_eq_left', exists_and_left, exists_eq', exists_eq, and_assoc, N_is_name]
  obtain ⟨t, ty, kt⟩ := ho.ty (K := K)
  refine isi_ty (r := false) ty kt ?_
  try simp only [cxK, r_lam, r_dnew, r_err, r_base, r_serr, r_var, r_c, r_seq, r_next, r_break, r_cont, r_drop, r_ret, r_retN, r_if, r_ife, r_asg, r_name, r_op, r_un, r_nil, r_cons, r_lst2, r_tup2, r_lc, r_for, r_ilist, r_itup, r_istr, r_irng1, r_irng2, r_ienum, r_ienumS, wipe, r_cb, r_test, r_b, r_not, r_notV, r_andV, r_orV, r_isN, r_notN, r_m1, r_m0, r_fld, sFld, putF, r_par, r_sub, r_gtup, r_gnil, r_gcons, r_sl, r_nopart, r_part, r_bm, r_bm0, r_chain, r_call, r_callK, r_meth, r_prop, r_make, r_and, r_or, andT_t, andT_f, orT_t, orT_f, ifK_t, ifK_f, ifE_t, ifE_f, andK_t, andK_f, orK_t, orK_f, L2.start, List.map_cons, List.map_nil, List.length_cons, List.length_nil, List.replicate_succ, List.replicate_zero, List.cons_append, List.nil_append, List.getElem?_cons_succ, List.getElem?_cons_zero, List.set_cons_succ, List.set_cons_zero, Nat.reduceAdd, Nat.reduceSub, Nat.zero_add, decide_true, decide_false, Bool.not_true, Bool.not_false, if_true, if_false, rEq, rNe, scal_ii, scal_ss, scal_bb, scal_is, scal_si, scal_ns, scal_ni, scal_in, scal_sn, scal_nn, rI, rI0, rU, rIxLH, rIxTH, rLenH, rLenTH, rSetL, rCatN, rTupOfN, rLstOfN, rSlLN, rSlTN, CDiv, CPow, CMul, CDivW, rNeNil, rLenO, rSplitN, rRepN, r_replC, rMulS, r_methK, rRepTN, r_cmK, rCmpO, Bool.false_xor, Bool.true_xor, r_starT, r_starL, r_cm, r_cval, selK_t, selK_f, rAppend, rIsK, reduceCtorEq, upd_same, at0, at1, at2, at3, at4, at5, at6, at7, at8, at9, at10, at11, at12, at13, ix3_0, ix3_1, ix3_2, V.int.injEq, V.bl.injEq, V.str.injEq, V.ref.injEq, Option.some.injEq, HO.lst.injEq, HO.tup.injEq, HO.ins.injEq, List.cons.injEq, and_true, true_and, exists_eq_left, exists_eq_left', exists_and_left, exists_eq', exists_eq, and_assoc, N_is_name]
  exact q
theorem ok_is_nameV (T : Tx fa fn K mg) : Fn gd P w K mg base 1 (aG "is_name" K) [] spNmV := by
  intro A outer s H us ws vs zs Q E hr e0 r rz l h
  obtain ⟨v, b, ev, hn, q⟩ := h
  rcases hn with ⟨z, rfl, hz, rfl⟩ | ⟨ho, rfl⟩
  · exact ok_is_name T A outer s H us ws vs zs Q E hr e0 r rz l ⟨z, ev, hz, q⟩
  · exact ok_is_nameO T A outer s H us ws vs zs Q E hr e0 r rz l ⟨v, ev, ho, q H same_refl⟩
def spInitX (K : PySem.W.Frag) : Sp := fun vs H Q E => ∃ (p t dx : Addr) (xs : List V) (bs : List Bool), vs = [.ref p, .ref t] ∧ H p = some (.ins (ga K "Path") dx []) ∧ H t = some (.tup xs) ∧ xs.length ≤ 1000 ∧ bs.length = xs.length ∧ (∀ (i : Nat) (x : V) (b : Bool), xs[i]? = some x → bs[i]? = some b → NmV H x b) ∧
  ∀ H', Same H H' → (bs.all id = true → xs.length ≤ 12 → Q .non (upd H' p (.ins (ga K "Path") dx [("names", .ref t)]))) ∧ (bs.all id = false → ∀ d fs, H' d = some (.xd fs) → E (.ref (ga K "BadName")) (some d) H') ∧
    (bs.all id = true → 12 < xs.length → ∀ d fs, H' d = some (.xd fs) → E (.ref (ga K "BadPath")) (some d) H')
theorem zip_map {xs : List V} {bs : List Bool} (l : bs.length = xs.length) : ∀ (i : Nat) (x : V), xs[i]? = some x → ∃ b, bs[i]? = some b := fun i x h => by
  have hi := idx_lt h
  exact ⟨bs[i], by simp [l, hi]⟩
def InitPv (H : Hp) (bs : List Bool) (_ : Addr) (i : Nat) (acc : List V) (H' : Hp) : Prop := Same H H' ∧ acc = (bs.take i).map V.bl
theorem ok_Path_initX (T : Tx fa fn K mg) : Fn gd P w K mg base 3 (aM "Path" "__init__" K) [] (fun vs H Q E => ∃ ws rest, vs = ws ++ rest ∧ ws.length = 1 ∧ rest.length ≤ sizeLine ∧ ∀ t, H t = Option.none → spInitX K (ws ++ [V.ref t]) (upd H t (.tup rest)) Q E) := by
  obtain ⟨fd, F⟩ := F_Path_init T
  refine fn_var (ps := ["self"]) (pv := "names") F sc_Path_init (v_Path_init F) (fun cdv A outer s H vs Q E hr h => ⟨_, (pss_cons (ps_if (pt_not (pt_val (pe_callB (cr_all rfl) (by rfl) (T.free (T.c.fact 6 (f := fFree "all") rfl)) (by decide +kernel) (pa_cons (pe_lc (own := [("name", 2)]) (g := gName 2) (tt := tYes) rfl sc_Path_init.nd (pi_tup (pv 1)) (blkOk_by (own := [("name", 2)]) (N := N_Path_init) (sc := defScope s_Path_init) (by decide +kernel)) (fun _ _ _ _ _ => (pg_name (i := 2) sc_Path_init.nd rfl (Or.inl rfl))) (fun _ _ _ _ _ => pts_nil) (fun _ _ _ _ _ => (pe_fn (ok_is_nameV T) (hr.mono (by decide)) rfl (g_is_name T) (k_is_name T) passL (pa_cons (pv 2) pa_nil)))) pa_nil))))
 (pss_one (ps_rerr rfl (takes_of rfl rfl rfl rfl) (ox_BadName T) (ok_BadName_init T) (hr.mono (by decide)) rfl (T.glo (T.c.fact 13 (f := fGlo "BadName") rfl)) passL (pa_cons pe_str pa_nil)))
 pss_nil)
 (pss_cons (ps_if (pt_cmpR op_gt (pe_callB call_len_th (by rfl) (T.free (T.c.fact 0 (f := fFree "len") rfl)) (by decide +kernel) (pa_cons (pv 1) pa_nil)) (pe_gint rfl (T.int (T.c.fact 11 (f := fInt "MAX_NAMES" (12)) rfl))) (nomark _))
 (pss_one (ps_rerr rfl (takes_of rfl rfl rfl rfl) (ox_BadPath T) (ok_BadPath_init T) (hr.mono (by decide)) rfl (T.glo (T.c.fact 12 (f := fGlo "BadPath") rfl)) passL (pa_cons pe_str pa_nil)))
 pss_nil)
 (pss_one (ps_fld (pv 0) (pv 1) rfl)))), ?_⟩)
  obtain ⟨p, t, dx, xs, bs, rfl, hp, ht, hl, hb, hN, q⟩ := h
  try simp only [cxK, r_lam, r_dnew, r_err, r_base, r_serr, r_var, r_c, r_seq, r_next, r_break, r_cont, r_drop, r_ret, r_retN, r_if, r_ife, r_asg, r_name, r_op, r_un, r_nil, r_cons, r_lst2, r_tup2, r_lc, r_for, r_ilist, r_itup, r_istr, r_irng1, r_irng2, r_ienum, r_ienumS, wipe, r_cb, r_test, r_b, r_not, r_notV, r_andV, r_orV, r_isN, r_notN, r_m1, r_m0, r_fld, sFld, putF, r_par, r_sub, r_gtup, r_gnil, r_gcons, r_sl, r_nopart, r_part, r_bm, r_bm0, r_chain, r_call, r_callK, r_meth, r_prop, r_make, r_and, r_or, andT_t, andT_f, orT_t, orT_f, ifK_t, ifK_f, ifE_t, ifE_f, andK_t, andK_f, orK_t, orK_f, L2.start, List.map_cons, List.map_nil, List.length_cons, List.length_nil, List.replicate_succ, List.replicate_zero, List.cons_append, List.nil_append, List.getElem?_cons_succ, List.getElem?_cons_zero, List.set_cons_succ, List.set_cons_zero, Nat.reduceAdd, Nat.reduceSub, Nat.zero_add, decide_true, decide_false, Bool.not_true, Bool.not_false, if_true, if_false, rEq, rNe, scal_ii, scal_ss, scal_bb, scal_is, scal_si, scal_ns, scal_ni, scal_in, scal_sn, scal_nn, rI, rI0, rU, rIxLH, rIxTH, rLenH, rLenTH, rSetL, rCatN, rTupOfN, rLstOfN, rSlLN, rSlTN, CDiv, CPow, CMul, CDivW, rNeNil, rLenO, rSplitN, rRepN, r_replC, rMulS, r_methK, rRepTN, r_cmK, rCmpO, Bool.false_xor, Bool.true_xor, r_starT, r_starL, r_cm, r_cval, selK_t, selK_f, rAppend, rIsK, reduceCtorEq, upd_same, at0, at1, at2, at3, at4, at5, at6, at7, at8, at9, at10, at11, at12, at13, ix3_0, ix3_1, ix3_2, V.int.injEq, V.bl.injEq, V.str.injEq, V.ref.injEq, Option.some.injEq, HO.lst.injEq, HO.tup.injEq, HO.ins.injEq, List.cons.injEq, and_true, true_and, exists_eq_left, exists_eq_left', exists_and_left, exists_eq', exists_eq, and_assoc, N_Path_init]
  refine ⟨⟨_, SqT.of ht⟩, ?_⟩
  refine lcK_it walk_tup (InitPv H bs) (fun D H0 n0 => ⟨n0.same, rfl⟩) (fun D i acc H1 nD hi hD pv => SqT.of (pv.1 _ _ ht)) ?_ ?_
  · rintro D i x acc H1 H2 nD hi hD hlen ⟨sm, ea⟩ ⟨rfl, hx⟩
    obtain ⟨b, eb⟩ := zip_map hb i x hx
    try simp only [cxK, r_lam, r_dnew, r_err, r_base, r_serr, r_var, r_c, r_seq, r_next, r_break, r_cont, r_drop, r_ret, r_retN, r_if, r_ife, r_asg, r_name, r_op, r_un, r_nil, r_cons, r_lst2, r_tup2, r_lc, r_for, r_ilist, r_itup, r_istr, r_irng1, r_irng2, r_ienum, r_ienumS, wipe, r_cb, r_test, r_b, r_not, r_notV, r_andV, r_orV, r_isN, r_notN, r_m1, r_m0, r_fld, sFld, putF, r_par, r_sub, r_gtup, r_gnil, r_gcons, r_sl, r_nopart, r_part, r_bm, r_bm0, r_chain, r_call, r_callK, r_meth, r_prop, r_make, r_and, r_or, andT_t, andT_f, orT_t, orT_f, ifK_t, ifK_f, ifE_t, ifE_f, andK_t, andK_f, orK_t, orK_f, L2.start, List.map_cons, List.map_nil, List.length_cons, List.length_nil, List.replicate_succ, List.replicate_zero, List.cons_append, List.nil_append, List.getElem?_cons_succ, List.getElem?_cons_zero, List.set_cons_succ, List.set_cons_zero, Nat.reduceAdd, Nat.reduceSub, Nat.zero_add, decide_true, decide_false, Bool.not_true, Bool.not_false, if_true, if_false, rEq, rNe, scal_ii, scal_ss, scal_bb, scal_is, scal_si, scal_ns, scal_ni, scal_in, scal_sn, scal_nn, rI, rI0, rU, rIxLH, rIxTH, rLenH, rLenTH, rSetL, rCatN, rTupOfN, rLstOfN, rSlLN, rSlTN, CDiv, CPow, CMul, CDivW, rNeNil, rLenO, rSplitN, rRepN, r_replC, rMulS, r_methK, rRepTN, r_cmK, rCmpO, Bool.false_xor, Bool.true_xor, r_starT, r_starL, r_cm, r_cval, selK_t, selK_f, rAppend, rIsK, reduceCtorEq, upd_same, at0, at1, at2, at3, at4, at5, at6, at7, at8, at9, at10, at11, at12, at13, ix3_0, ix3_1, ix3_2, V.int.injEq, V.bl.injEq, V.str.injEq, V.ref.injEq, Option.some.injEq, HO.lst.injEq, HO.tup.injEq, HO.ins.injEq, List.cons.injEq, and_true, true_and, exists_eq_left, exists_eq_left', exists_and_left, exists_eq', exists_eq, and_assoc, N_Path_init]
    refine ⟨x, b, rfl, (hN i x b hx eb).same sm, fun H3 s3 => addK_mk (s3 _ _ hD) hlen (by omega) ⟨same_upd nD (same_trans sm s3), ?_⟩⟩
    rw [ea, List.take_add_one, eb]
    simp
  · rintro D acc H1 nD hD hlen ⟨sm, ea⟩
    rw [← hb, List.take_length] at ea
    subst ea
    refine ⟨D, bs, rfl, SqL.of hD, ?_⟩
    have ht1 := sm _ _ ht
    have hp1 := sm _ _ hp
    cases hall : bs.all id with
    | false =>
      try simp only [cxK, r_lam, r_dnew, r_err, r_base, r_serr, r_var, r_c, r_seq, r_next, r_break, r_cont, r_drop, r_ret, r_retN, r_if, r_ife, r_asg, r_name, r_op, r_un, r_nil, r_cons, r_lst2, r_tup2, r_lc, r_for, r_ilist, r_itup, r_istr, r_irng1, r_irng2, r_ienum, r_ienumS, wipe, r_cb, r_test, r_b, r_not, r_notV, r_andV, r_orV, r_isN, r_notN, r_m1, r_m0, r_fld, sFld, putF, r_par, r_sub, r_gtup, r_gnil, r_gcons, r_sl, r_nopart, r_part, r_bm, r_bm0, r_chain, r_call, r_callK, r_meth, r_prop, r_make, r_and, r_or, andT_t, andT_f, orT_t, orT_f, ifK_t, ifK_f, ifE_t, ifE_f, andK_t, andK_f, orK_t, orK_f, L2.start, List.map_cons, List.map_nil, List.length_cons, List.length_nil, List.replicate_succ, List.replicate_zero, List.cons_append, List.nil_append, List.getElem?_cons_succ, List.getElem?_cons_zero, List.set_cons_succ, List.set_cons_zero, Nat.reduceAdd, Nat.reduceSub, Nat.zero_add, decide_true, decide_false, Bool.not_true, Bool.not_false, if_true, if_false, rEq, rNe, scal_ii, scal_ss, scal_bb, scal_is, scal_si, scal_ns, scal_ni, scal_in, scal_sn, scal_nn, rI, rI0, rU, rIxLH, rIxTH, rLenH, rLenTH, rSetL, rCatN, rTupOfN, rLstOfN, rSlLN, rSlTN, CDiv, CPow, CMul, CDivW, rNeNil, rLenO, rSplitN, rRepN, r_replC, rMulS, r_methK, rRepTN, r_cmK, rCmpO, Bool.false_xor, Bool.true_xor, r_starT, r_starL, r_cm, r_cval, selK_t, selK_f, rAppend, rIsK, reduceCtorEq, upd_same, at0, at1, at2, at3, at4, at5, at6, at7, at8, at9, at10, at11, at12, at13, ix3_0, ix3_1, ix3_2, V.int.injEq, V.bl.injEq, V.str.injEq, V.ref.injEq, Option.some.injEq, HO.lst.injEq, HO.tup.injEq, HO.ins.injEq, List.cons.injEq, and_true, true_and, exists_eq_left, exists_eq_left', exists_and_left, exists_eq', exists_eq, and_assoc, N_Path_init]
      intro d H2 n2
      exact (q H2 (same_trans sm n2.same)).2.1 hall d _ n2.at_
    | true =>
      by_cases h12 : (12 : Int) < (xs.length : Nat)
      · try simp only [cxK, r_lam, r_dnew, r_err, r_base, r_serr, r_var, r_c, r_seq, r_next, r_break, r_cont, r_drop, r_ret, r_retN, r_if, r_ife, r_asg, r_name, r_op, r_un, r_nil, r_cons, r_lst2, r_tup2, r_lc, r_for, r_ilist, r_itup, r_istr, r_irng1, r_irng2, r_ienum, r_ienumS, wipe, r_cb, r_test, r_b, r_not, r_notV, r_andV, r_orV, r_isN, r_notN, r_m1, r_m0, r_fld, sFld, putF, r_par, r_sub, r_gtup, r_gnil, r_gcons, r_sl, r_nopart, r_part, r_bm, r_bm0, r_chain, r_call, r_callK, r_meth, r_prop, r_make, r_and, r_or, andT_t, andT_f, orT_t, orT_f, ifK_t, ifK_f, ifE_t, ifE_f, andK_t, andK_f, orK_t, orK_f, L2.start, List.map_cons, List.map_nil, List.length_cons, List.length_nil, List.replicate_succ, List.replicate_zero, List.cons_append, List.nil_append, List.getElem?_cons_succ, List.getElem?_cons_zero, List.set_cons_succ, List.set_cons_zero, Nat.reduceAdd, Nat.reduceSub, Nat.zero_add, decide_true, decide_false, Bool.not_true, Bool.not_false, if_true, if_false, rEq, rNe, scal_ii, scal_ss, scal_bb, scal_is, scal_si, scal_ns, scal_ni, scal_in, scal_sn, scal_nn, rI, rI0, rU, rIxLH, rIxTH, rLenH, rLenTH, rSetL, rCatN, rTupOfN, rLstOfN, rSlLN, rSlTN, CDiv, CPow, CMul, CDivW, rNeNil, rLenO, rSplitN, rRepN, r_replC, rMulS, r_methK, rRepTN, r_cmK, rCmpO, Bool.false_xor, Bool.true_xor, r_starT, r_starL, r_cm, r_cval, selK_t, selK_f, rAppend, rIsK, reduceCtorEq, upd_same, at0, at1, at2, at3, at4, at5, at6, at7, at8, at9, at10, at11, at12, at13, ix3_0, ix3_1, ix3_2, V.int.injEq, V.bl.injEq, V.str.injEq, V.ref.injEq, Option.some.injEq, HO.lst.injEq, HO.tup.injEq, HO.ins.injEq, List.cons.injEq, and_true, true_and, exists_eq_left, exists_eq_left', exists_and_left, exists_eq', exists_eq, and_assoc, N_Path_init, ht1, h12]
        intro d H2 n2
        exact (q H2 (same_trans sm n2.same)).2.2 hall (by omega) d _ n2.at_
      · try simp only [cxK, r_lam, r_dnew, r_err, r_base, r_serr, r_var, r_c, r_seq, r_next, r_break, r_cont, r_drop, r_ret, r_retN, r_if, r_ife, r_asg, r_name, r_op, r_un, r_nil, r_cons, r_lst2, r_tup2, r_lc, r_for, r_ilist, r_itup, r_istr, r_irng1, r_irng2, r_ienum, r_ienumS, wipe, r_cb, r_test, r_b, r_not, r_notV, r_andV, r_orV, r_isN, r_notN, r_m1, r_m0, r_fld, sFld, putF, r_par, r_sub, r_gtup, r_gnil, r_gcons, r_sl, r_nopart, r_part, r_bm, r_bm0, r_chain, r_call, r_callK, r_meth, r_prop, r_make, r_and, r_or, andT_t, andT_f, orT_t, orT_f, ifK_t, ifK_f, ifE_t, ifE_f, andK_t, andK_f, orK_t, orK_f, L2.start, List.map_cons, List.map_nil, List.length_cons, List.length_nil, List.replicate_succ, List.replicate_zero, List.cons_append, List.nil_append, List.getElem?_cons_succ, List.getElem?_cons_zero, List.set_cons_succ, List.set_cons_zero, Nat.reduceAdd, Nat.reduceSub, Nat.zero_add, decide_true, decide_false, Bool.not_true, Bool.not_false, if_true, if_false, rEq, rNe, scal_ii, scal_ss, scal_bb, scal_is, scal_si, scal_ns, scal_ni, scal_in, scal_sn, scal_nn, rI, rI0, rU, rIxLH, rIxTH, rLenH, rLenTH, rSetL, rCatN, rTupOfN, rLstOfN, rSlLN, rSlTN, CDiv, CPow, CMul, CDivW, rNeNil, rLenO, rSplitN, rRepN, r_replC, rMulS, r_methK, rRepTN, r_cmK, rCmpO, Bool.false_xor, Bool.true_xor, r_starT, r_starL, r_cm, r_cval, selK_t, selK_f, rAppend, rIsK, reduceCtorEq, upd_same, at0, at1, at2, at3, at4, at5, at6, at7, at8, at9, at10, at11, at12, at13, ix3_0, ix3_1, ix3_2, V.int.injEq, V.bl.injEq, V.str.injEq, V.ref.injEq, Option.some.injEq, HO.lst.injEq, HO.tup.injEq, HO.ins.injEq, List.cons.injEq, and_true, true_and, exists_eq_left, exists_eq_left', exists_and_left, exists_eq', exists_eq, and_assoc, N_Path_init, ht1, hp1, h12]
        exact ⟨(cls_ok (T.c.fact 14 (f := fCls "Path") rfl)), (noat_ok (T.c.fact 15 (f := fNo "Path" "names") rfl)), by decide, (q H1 sm).1 hall (by omega)⟩
theorem ok_Path_init (T : Tx fa fn K mg) : Fn gd P w K mg base 3 (aM "Path" "__init__" K) [] (fun vs H Q E => ∃ ws rest, vs = ws ++ rest ∧ ws.length = 1 ∧ rest.length ≤ sizeLine ∧ ∀ t, H t = Option.none → spInit K (ws ++ [V.ref t]) (upd H t (.tup rest)) Q E) :=
  (ok_Path_initX T).imp fun vs H Q E ⟨ws, rest, e1, e2, e3, h⟩ => ⟨ws, rest, e1, e2, e3, fun t nt => by
    obtain ⟨p, t2, dx, ns, f1, f2, f3, f4, f5, f6⟩ := h t nt
    have al : (List.replicate ns.length true).all id = true := by simp
    refine ⟨p, t2, dx, ns.map V.str, List.replicate ns.length true, f1, f2, f3, by simp; omega, by simp, fun i x b hx hb => ?_, fun H' s => ⟨fun _ _ => f6 H' s, fun z => ?_, fun _ z => ?_⟩⟩
    · rw [List.getElem?_map] at hx
      obtain ⟨z, hz, rfl⟩ := Option.map_eq_some_iff.mp hx
      have hb2 := List.mem_replicate.mp (List.mem_of_getElem? hb)
      have hz2 := f5 z (List.mem_of_getElem? hz)
      exact .inl ⟨z, rfl, by have := (isNm_fits hz2).1; show z.length ≤ 16000000; omega, by rw [hb2.2, hz2]⟩
    · rw [al] at z
      cases z
    · simp at z; omega⟩
theorem path_made {K : PySem.W.Frag} {H : Hp} {ns : List Str} {Q : VK} {E : XK} (hl : ns.length ≤ 12) (hN : ∀ x ∈ ns, isNm x = true) (q : ∀ p H', Same H H' → IsPath K H' p ns → Q (.ref p) H') :
    ∀ x dx, H x = none → H dx = none → dx ≠ x → ∃ ws rest, (V.ref x :: ns.map V.str) = ws ++ rest ∧ ws.length = 1 ∧ rest.length ≤ sizeLine ∧ ∀ t, (upd (upd H dx (.own x)) x (.ins (ga K "Path") dx [])) t = Option.none →
      spInit K (ws ++ [V.ref t]) (upd (upd (upd H dx (.own x)) x (.ins (ga K "Path") dx [])) t (.tup rest)) (fun v H2 => v = .non ∧ Q (.ref x) H2) E := by
  intro x dx nx ndx ne
  refine ⟨[.ref x], ns.map V.str, rfl, rfl, fits (by simp; omega), fun t nt => ?_⟩
  have tx : x ≠ t := fun e => by
    subst e
    rw [upd_same] at nt
    cases nt
  refine ⟨x, t, dx, ns, rfl, by rw [upd_ne tx]; exact upd_same, upd_same, hl, hN, fun H' s => ⟨rfl, ?_⟩⟩
  have s0 : Same H (upd (upd (upd H dx (.own x)) x (.ins (ga K "Path") dx [])) t (.tup (ns.map V.str))) := same_trans (IsNew.same ⟨ndx, rfl⟩) (same_trans (IsNew.same ⟨by rw [upd_ne (Ne.symm ne)]; exact nx, rfl⟩) (IsNew.same ⟨nt, rfl⟩))
  refine q x _ (same_upd nx (same_trans s0 s)) ⟨dx, t, upd_same, ?_⟩
  rw [upd_ne (Ne.symm tx)]
  exact s _ _ upd_same
theorem path_made2 {K : PySem.W.Frag} {H : Hp} {ns : List Str} {Q : Addr → Hp → Prop} {E : XK} (hl : ns.length ≤ 12) (hN : ∀ x ∈ ns, isNm x = true) (q : ∀ p H', Same H H' → IsPath K H' p ns → Q p H') :
    ∀ x dx, H x = none → H dx = none → dx ≠ x → ∃ ws rest, (V.ref x :: ns.map V.str) = ws ++ rest ∧ ws.length = 1 ∧ rest.length ≤ sizeLine ∧ ∀ t, (upd (upd H dx (.own x)) x (.ins (ga K "Path") dx [])) t = Option.none →
      spInit K (ws ++ [V.ref t]) (upd (upd (upd H dx (.own x)) x (.ins (ga K "Path") dx [])) t (.tup rest)) (fun v H2 => v = .non ∧ Q x H2) E :=
  by
    intro x dx a b c
    obtain ⟨ws, rest, e1, e2, e3, k⟩ := path_made (E := E) (Q := fun v H' => ∃ p, v = .ref p ∧ Q p H') hl hN (fun p H' s h => ⟨p, rfl, q p H' s h⟩) x dx a b c
    refine ⟨ws, rest, e1, e2, e3, fun t nt => ?_⟩
    obtain ⟨p, t', dx', ms, f1, f2, f3, f4, f5, f6⟩ := k t nt
    refine ⟨p, t', dx', ms, f1, f2, f3, f4, f5, fun H' s => ?_⟩
    obtain ⟨g1, y, g2, g3⟩ := f6 H' s
    cases g2
    exact ⟨g1, g3⟩
def lastOf (ns : List Str) : Str := (ns[ns.length - 1]?).getD ""
theorem nms_of {ns : List Str} (hl : ns.length ≤ 12) (hN : ∀ x ∈ ns, isNm x = true) : Nms ns := ⟨by omega, fun x hx => ⟨(isNm_fits (hN x hx)).2.1, by have := (isNm_fits (hN x hx)).1; omega⟩⟩
theorem last_ok {ns : List Str} (h : Nms ns) : PyData.strOk (lastOf ns) = true ∧ (lastOf ns).length ≤ 1000 := by
  unfold lastOf
  cases e : ns[ns.length - 1]? with
  | none => exact ⟨by decide +kernel, by decide +kernel⟩
  | some v => exact h.2 v (List.mem_of_getElem? e)
/-- a property that gives a text -/
def spStr (f : List Str → Str) (K : PySem.W.Frag) : Sp := fun vs H Q _ => ∃ (p : Addr) (ns : List Str), vs = [.ref p] ∧ IsPath K H p ns ∧ Nms ns ∧ ∀ H', Same H H' → Q (.str (f ns)) H'
theorem ok_Path_name (T : Tx fa fn K mg) : Fn gd P w K mg base 1 (aP "Path" "name" K) [] (spStr lastOf K) := by
  obtain ⟨fd, F⟩ := F_Path_name T
  refine fn_all F sc_Path_name (fun vs H Q E h => ?_) (b_Path_name F) (fun cdv A outer s H vs Q E hr h => ⟨_, (pss_one (ps_ret (pe_ifExp (pt_cmpR (op_neD hr.r.units) (pe_fld (pv 0) rfl) (pe_tup pa_nil) (nomark _)) (pe_ix ix_th (pe_fld (pv 0) rfl) (pe_un un_neg pe_int) (fun _ _ => rfl)) pe_str))), ?_⟩)
  · first | (obtain ⟨_, e, _⟩ := h; subst e; rfl) | (obtain ⟨_, _, e, _⟩ := h; subst e; rfl) | (obtain ⟨_, _, _, e, _⟩ := h; subst e; rfl) | (obtain ⟨_, _, _, _, e, _⟩ := h; subst e; rfl) | (obtain ⟨_, _, _, _, _, e, _⟩ := h; subst e; rfl) | (obtain ⟨_, _, _, _, _, _, e, _⟩ := h; subst e; rfl) | (obtain ⟨_, _, _, _, _, _, _, e, _⟩ := h; subst e; rfl) | (obtain ⟨_, _, _, _, _, _, _, _, e, _⟩ := h; subst e; rfl) | (obtain ⟨_, _, _, _, _, _, _, _, _, e, _⟩ := h; subst e; rfl) | (obtain ⟨_, _, _, _, _, _, _, _, _, _, e, _⟩ := h; subst e; rfl) | (obtain ⟨_, _, _, _, _, _, _, _, _, _, _, e, _⟩ := h; subst e; rfl)
  obtain ⟨p, ns, rfl, ⟨dx, t, hp, ht⟩, hN, q⟩ := h
  try simp only [cxK, r_lam, r_dnew, r_err, r_base, r_serr, r_var, r_c, r_seq, r_next, r_break, r_cont, r_drop, r_ret, r_retN, r_if, r_ife, r_asg, r_name, r_op, r_un, r_nil, r_cons, r_lst2, r_tup2, r_lc, r_for, r_ilist, r_itup, r_istr, r_irng1, r_irng2, r_ienum, r_ienumS, wipe, r_cb, r_test, r_b, r_not, r_notV, r_andV, r_orV, r_isN, r_notN, r_m1, r_m0, r_fld, sFld, putF, r_par, r_sub, r_gtup, r_gnil, r_gcons, r_sl, r_nopart, r_part, r_bm, r_bm0, r_chain, r_call, r_callK, r_meth, r_prop, r_make, r_and, r_or, andT_t, andT_f, orT_t, orT_f, ifK_t, ifK_f, ifE_t, ifE_f, andK_t, andK_f, orK_t, orK_f, L2.start, List.map_cons, List.map_nil, List.length_cons, List.length_nil, List.replicate_succ, List.replicate_zero, List.cons_append, List.nil_append, List.getElem?_cons_succ, List.getElem?_cons_zero, List.set_cons_succ, List.set_cons_zero, Nat.reduceAdd, Nat.reduceSub, Nat.zero_add, decide_true, decide_false, Bool.not_true, Bool.not_false, if_true, if_false, rEq, rNe, scal_ii, scal_ss, scal_bb, scal_is, scal_si, scal_ns, scal_ni, scal_in, scal_sn, scal_nn, rI, rI0, rU, rIxLH, rIxTH, rLenH, rLenTH, rSetL, rCatN, rTupOfN, rLstOfN, rSlLN, rSlTN, CDiv, CPow, CMul, CDivW, rNeNil, rLenO, rSplitN, rRepN, r_replC, rMulS, r_methK, rRepTN, r_cmK, rCmpO, Bool.false_xor, Bool.true_xor, r_starT, r_starL, r_cm, r_cval, selK_t, selK_f, rAppend, rIsK, reduceCtorEq, upd_same, at0, at1, at2, at3, at4, at5, at6, at7, at8, at9, at10, at11, at12, at13, ix3_0, ix3_1, ix3_2, V.int.injEq, V.bl.injEq, V.str.injEq, V.ref.injEq, Option.some.injEq, HO.lst.injEq, HO.tup.injEq, HO.ins.injEq, List.cons.injEq, and_true, true_and, exists_eq_left, exists_eq_left', exists_and_left, exists_eq', exists_eq, and_assoc, N_Path_name, hp]
  refine ⟨(cls_ok (T.c.fact 14 (f := fCls "Path") rfl)), (noat_ok (T.c.fact 15 (f := fNo "Path" "names") rfl)), _, rfl, fits (by decide), fun l H1 n1 => ?_⟩
  have hp1 := n1.old hp
  have ht1 := n1.old ht
  have he : ([] : List V) = ([] : List Str).map V.str := rfl
  have hl1 := n1.at_
  rw [he] at hl1
  refine neD_strT ht1 hl1 hN.ok (fun _ h => nomatch h) ?_
  try simp only [cxK, r_lam, r_dnew, r_err, r_base, r_serr, r_var, r_c, r_seq, r_next, r_break, r_cont, r_drop, r_ret, r_retN, r_if, r_ife, r_asg, r_name, r_op, r_un, r_nil, r_cons, r_lst2, r_tup2, r_lc, r_for, r_ilist, r_itup, r_istr, r_irng1, r_irng2, r_ienum, r_ienumS, wipe, r_cb, r_test, r_b, r_not, r_notV, r_andV, r_orV, r_isN, r_notN, r_m1, r_m0, r_fld, sFld, putF, r_par, r_sub, r_gtup, r_gnil, r_gcons, r_sl, r_nopart, r_part, r_bm, r_bm0, r_chain, r_call, r_callK, r_meth, r_prop, r_make, r_and, r_or, andT_t, andT_f, orT_t, orT_f, ifK_t, ifK_f, ifE_t, ifE_f, andK_t, andK_f, orK_t, orK_f, L2.start, List.map_cons, List.map_nil, List.length_cons, List.length_nil, List.replicate_succ, List.replicate_zero, List.cons_append, List.nil_append, List.getElem?_cons_succ, List.getElem?_cons_zero, List.set_cons_succ, List.set_cons_zero, Nat.reduceAdd, Nat.reduceSub, Nat.zero_add, decide_true, decide_false, Bool.not_true, Bool.not_false, if_true, if_false, rEq, rNe, scal_ii, scal_ss, scal_bb, scal_is, scal_si, scal_ns, scal_ni, scal_in, scal_sn, scal_nn, rI, rI0, rU, rIxLH, rIxTH, rLenH, rLenTH, rSetL, rCatN, rTupOfN, rLstOfN, rSlLN, rSlTN, CDiv, CPow, CMul, CDivW, rNeNil, rLenO, rSplitN, rRepN, r_replC, rMulS, r_methK, rRepTN, r_cmK, rCmpO, Bool.false_xor, Bool.true_xor, r_starT, r_starL, r_cm, r_cval, selK_t, selK_f, rAppend, rIsK, reduceCtorEq, upd_same, at0, at1, at2, at3, at4, at5, at6, at7, at8, at9, at10, at11, at12, at13, ix3_0, ix3_1, ix3_2, V.int.injEq, V.bl.injEq, V.str.injEq, V.ref.injEq, Option.some.injEq, HO.lst.injEq, HO.tup.injEq, HO.ins.injEq, List.cons.injEq, and_true, true_and, exists_eq_left, exists_eq_left', exists_and_left, exists_eq', exists_eq, and_assoc, N_Path_name]
  by_cases hn : ns = []
  · subst hn
    try simp only [cxK, r_lam, r_dnew, r_err, r_base, r_serr, r_var, r_c, r_seq, r_next, r_break, r_cont, r_drop, r_ret, r_retN, r_if, r_ife, r_asg, r_name, r_op, r_un, r_nil, r_cons, r_lst2, r_tup2, r_lc, r_for, r_ilist, r_itup, r_istr, r_irng1, r_irng2, r_ienum, r_ienumS, wipe, r_cb, r_test, r_b, r_not, r_notV, r_andV, r_orV, r_isN, r_notN, r_m1, r_m0, r_fld, sFld, putF, r_par, r_sub, r_gtup, r_gnil, r_gcons, r_sl, r_nopart, r_part, r_bm, r_bm0, r_chain, r_call, r_callK, r_meth, r_prop, r_make, r_and, r_or, andT_t, andT_f, orT_t, orT_f, ifK_t, ifK_f, ifE_t, ifE_f, andK_t, andK_f, orK_t, orK_f, L2.start, List.map_cons, List.map_nil, List.length_cons, List.length_nil, List.replicate_succ, List.replicate_zero, List.cons_append, List.nil_append, List.getElem?_cons_succ, List.getElem?_cons_zero, List.set_cons_succ, List.set_cons_zero, Nat.reduceAdd, Nat.reduceSub, Nat.zero_add, decide_true, decide_false, Bool.not_true, Bool.not_false, if_true, if_false, rEq, rNe, scal_ii, scal_ss, scal_bb, scal_is, scal_si, scal_ns, scal_ni, scal_in, scal_sn, scal_nn, rI, rI0, rU, rIxLH, rIxTH, rLenH, rLenTH, rSetL, rCatN, rTupOfN, rLstOfN, rSlLN, rSlTN, CDiv, CPow, CMul, CDivW, rNeNil, rLenO, rSplitN, rRepN, r_replC, rMulS, r_methK, rRepTN, r_cmK, rCmpO, Bool.false_xor, Bool.true_xor, r_starT, r_starL, r_cm, r_cval, selK_t, selK_f, rAppend, rIsK, reduceCtorEq, upd_same, at0, at1, at2, at3, at4, at5, at6, at7, at8, at9, at10, at11, at12, at13, ix3_0, ix3_1, ix3_2, V.int.injEq, V.bl.injEq, V.str.injEq, V.ref.injEq, Option.some.injEq, HO.lst.injEq, HO.tup.injEq, HO.ins.injEq, List.cons.injEq, and_true, true_and, exists_eq_left, exists_eq_left', exists_and_left, exists_eq', exists_eq, and_assoc, N_Path_name]
    exact q H1 n1.same
  · try simp only [cxK, r_lam, r_dnew, r_err, r_base, r_serr, r_var, r_c, r_seq, r_next, r_break, r_cont, r_drop, r_ret, r_retN, r_if, r_ife, r_asg, r_name, r_op, r_un, r_nil, r_cons, r_lst2, r_tup2, r_lc, r_for, r_ilist, r_itup, r_istr, r_irng1, r_irng2, r_ienum, r_ienumS, wipe, r_cb, r_test, r_b, r_not, r_notV, r_andV, r_orV, r_isN, r_notN, r_m1, r_m0, r_fld, sFld, putF, r_par, r_sub, r_gtup, r_gnil, r_gcons, r_sl, r_nopart, r_part, r_bm, r_bm0, r_chain, r_call, r_callK, r_meth, r_prop, r_make, r_and, r_or, andT_t, andT_f, orT_t, orT_f, ifK_t, ifK_f, ifE_t, ifE_f, andK_t, andK_f, orK_t, orK_f, L2.start, List.map_cons, List.map_nil, List.length_cons, List.length_nil, List.replicate_succ, List.replicate_zero, List.cons_append, List.nil_append, List.getElem?_cons_succ, List.getElem?_cons_zero, List.set_cons_succ, List.set_cons_zero, Nat.reduceAdd, Nat.reduceSub, Nat.zero_add, decide_true, decide_false, Bool.not_true, Bool.not_false, if_true, if_false, rEq, rNe, scal_ii, scal_ss, scal_bb, scal_is, scal_si, scal_ns, scal_ni, scal_in, scal_sn, scal_nn, rI, rI0, rU, rIxLH, rIxTH, rLenH, rLenTH, rSetL, rCatN, rTupOfN, rLstOfN, rSlLN, rSlTN, CDiv, CPow, CMul, CDivW, rNeNil, rLenO, rSplitN, rRepN, r_replC, rMulS, r_methK, rRepTN, r_cmK, rCmpO, Bool.false_xor, Bool.true_xor, r_starT, r_starL, r_cm, r_cval, selK_t, selK_f, rAppend, rIsK, reduceCtorEq, upd_same, at0, at1, at2, at3, at4, at5, at6, at7, at8, at9, at10, at11, at12, at13, ix3_0, ix3_1, ix3_2, V.int.injEq, V.bl.injEq, V.str.injEq, V.ref.injEq, Option.some.injEq, HO.lst.injEq, HO.tup.injEq, HO.ins.injEq, List.cons.injEq, and_true, true_and, exists_eq_left, exists_eq_left', exists_and_left, exists_eq', exists_eq, and_assoc, N_Path_name, hn, hp1]
    have hl : ns.length - 1 < ns.length := by have := List.length_pos_iff.mpr hn; omega
    have e : ns[ns.length - 1]? = some (lastOf ns) := by
      unfold lastOf
      rw [List.getElem?_eq_getElem hl]
      rfl
    refine ⟨(cls_ok (T.c.fact 14 (f := fCls "Path") rfl)), (noat_ok (T.c.fact 15 (f := fNo "Path" "names") rfl)), V.ref t, rfl, ?_⟩
    try simp only [cxK, r_lam, r_dnew, r_err, r_base, r_serr, r_var, r_c, r_seq, r_next, r_break, r_cont, r_drop, r_ret, r_retN, r_if, r_ife, r_asg, r_name, r_op, r_un, r_nil, r_cons, r_lst2, r_tup2, r_lc, r_for, r_ilist, r_itup, r_istr, r_irng1, r_irng2, r_ienum, r_ienumS, wipe, r_cb, r_test, r_b, r_not, r_notV, r_andV, r_orV, r_isN, r_notN, r_m1, r_m0, r_fld, sFld, putF, r_par, r_sub, r_gtup, r_gnil, r_gcons, r_sl, r_nopart, r_part, r_bm, r_bm0, r_chain, r_call, r_callK, r_meth, r_prop, r_make, r_and, r_or, andT_t, andT_f, orT_t, orT_f, ifK_t, ifK_f, ifE_t, ifE_f, andK_t, andK_f, orK_t, orK_f, L2.start, List.map_cons, List.map_nil, List.length_cons, List.length_nil, List.replicate_succ, List.replicate_zero, List.cons_append, List.nil_append, List.getElem?_cons_succ, List.getElem?_cons_zero, List.set_cons_succ, List.set_cons_zero, Nat.reduceAdd, Nat.reduceSub, Nat.zero_add, decide_true, decide_false, Bool.not_true, Bool.not_false, if_true, if_false, rEq, rNe, scal_ii, scal_ss, scal_bb, scal_is, scal_si, scal_ns, scal_ni, scal_in, scal_sn, scal_nn, rI, rI0, rU, rIxLH, rIxTH, rLenH, rLenTH, rSetL, rCatN, rTupOfN, rLstOfN, rSlLN, rSlTN, CDiv, CPow, CMul, CDivW, rNeNil, rLenO, rSplitN, rRepN, r_replC, rMulS, r_methK, rRepTN, r_cmK, rCmpO, Bool.false_xor, Bool.true_xor, r_starT, r_starL, r_cm, r_cval, selK_t, selK_f, rAppend, rIsK, reduceCtorEq, upd_same, at0, at1, at2, at3, at4, at5, at6, at7, at8, at9, at10, at11, at12, at13, ix3_0, ix3_1, ix3_2, V.int.injEq, V.bl.injEq, V.str.injEq, V.ref.injEq, Option.some.injEq, HO.lst.injEq, HO.tup.injEq, HO.ins.injEq, List.cons.injEq, and_true, true_and, exists_eq_left, exists_eq_left', exists_and_left, exists_eq', exists_eq, and_assoc, N_Path_name, ht1]
    refine ⟨.str (lastOf ns), atI_last ?_, q H1 n1.same⟩
    rw [List.length_map, List.getElem?_map, e]
    rfl
def spParent (K : PySem.W.Frag) : Sp := fun vs H Q _ => ∃ (p : Addr) (ns : List Str), vs = [.ref p] ∧ IsPath K H p ns ∧ ns.length ≤ 13 ∧ (∀ x ∈ ns, isNm x = true) ∧ ∀ H' p', Same H H' → IsPath K H' p' (ns.take (ns.length - 1)) → Q (.ref p') H'
def spLen (K : PySem.W.Frag) : Sp := fun vs H Q _ => ∃ (p : Addr) (xs : List V), vs = [.ref p] ∧ (∃ dx t, H p = some (.ins (ga K "Path") dx [("names", .ref t)]) ∧ H t = some (.tup xs)) ∧ Q (.int xs.length) H
theorem ok_Path_len (T : Tx fa fn K mg) : Fn gd P w K mg base 1 (aM "Path" "__len__" K) [] (spLen K) := by
  obtain ⟨fd, F⟩ := F_Path_len T
  refine fn_all F sc_Path_len (fun vs H Q E h => ?_) (b_Path_len F) (fun cdv A outer s H vs Q E hr h => ⟨_, (pss_one (ps_ret (pe_callB call_len_th (by rfl) (T.free (T.c.fact 0 (f := fFree "len") rfl)) (by decide +kernel) (pa_cons (pe_fld (pv 0) rfl) pa_nil)))), ?_⟩)
  · first | (obtain ⟨_, e, _⟩ := h; subst e; rfl) | (obtain ⟨_, _, e, _⟩ := h; subst e; rfl) | (obtain ⟨_, _, _, e, _⟩ := h; subst e; rfl) | (obtain ⟨_, _, _, _, e, _⟩ := h; subst e; rfl) | (obtain ⟨_, _, _, _, _, e, _⟩ := h; subst e; rfl) | (obtain ⟨_, _, _, _, _, _, e, _⟩ := h; subst e; rfl) | (obtain ⟨_, _, _, _, _, _, _, e, _⟩ := h; subst e; rfl) | (obtain ⟨_, _, _, _, _, _, _, _, e, _⟩ := h; subst e; rfl) | (obtain ⟨_, _, _, _, _, _, _, _, _, e, _⟩ := h; subst e; rfl) | (obtain ⟨_, _, _, _, _, _, _, _, _, _, e, _⟩ := h; subst e; rfl) | (obtain ⟨_, _, _, _, _, _, _, _, _, _, _, e, _⟩ := h; subst e; rfl)
  obtain ⟨p, xs, rfl, ⟨dx, t, hp, ht⟩, q⟩ := h
  try simp only [cxK, r_lam, r_dnew, r_err, r_base, r_serr, r_var, r_c, r_seq, r_next, r_break, r_cont, r_drop, r_ret, r_retN, r_if, r_ife, r_asg, r_name, r_op, r_un, r_nil, r_cons, r_lst2, r_tup2, r_lc, r_for, r_ilist, r_itup, r_istr, r_irng1, r_irng2, r_ienum, r_ienumS, wipe, r_cb, r_test, r_b, r_not, r_notV, r_andV, r_orV, r_isN, r_notN, r_m1, r_m0, r_fld, sFld, putF, r_par, r_sub, r_gtup, r_gnil, r_gcons, r_sl, r_nopart, r_part, r_bm, r_bm0, r_chain, r_call, r_callK, r_meth, r_prop, r_make, r_and, r_or, andT_t, andT_f, orT_t, orT_f, ifK_t, ifK_f, ifE_t, ifE_f, andK_t, andK_f, orK_t, orK_f, L2.start, List.map_cons, List.map_nil, List.length_cons, List.length_nil, List.replicate_succ, List.replicate_zero, List.cons_append, List.nil_append, List.getElem?_cons_succ, List.getElem?_cons_zero, List.set_cons_succ, List.set_cons_zero, Nat.reduceAdd, Nat.reduceSub, Nat.zero_add, decide_true, decide_false, Bool.not_true, Bool.not_false, if_true, if_false, rEq, rNe, scal_ii, scal_ss, scal_bb, scal_is, scal_si, scal_ns, scal_ni, scal_in, scal_sn, scal_nn, rI, rI0, rU, rIxLH, rIxTH, rLenH, rLenTH, rSetL, rCatN, rTupOfN, rLstOfN, rSlLN, rSlTN, CDiv, CPow, CMul, CDivW, rNeNil, rLenO, rSplitN, rRepN, r_replC, rMulS, r_methK, rRepTN, r_cmK, rCmpO, Bool.false_xor, Bool.true_xor, r_starT, r_starL, r_cm, r_cval, selK_t, selK_f, rAppend, rIsK, reduceCtorEq, upd_same, at0, at1, at2, at3, at4, at5, at6, at7, at8, at9, at10, at11, at12, at13, ix3_0, ix3_1, ix3_2, V.int.injEq, V.bl.injEq, V.str.injEq, V.ref.injEq, Option.some.injEq, HO.lst.injEq, HO.tup.injEq, HO.ins.injEq, List.cons.injEq, and_true, true_and, exists_eq_left, exists_eq_left', exists_and_left, exists_eq', exists_eq, and_assoc, N_Path_len, hp]
  refine ⟨(cls_ok (T.c.fact 14 (f := fCls "Path") rfl)), (noat_ok (T.c.fact 15 (f := fNo "Path" "names") rfl)), V.ref t, rfl, ?_⟩
  try simp only [cxK, r_lam, r_dnew, r_err, r_base, r_serr, r_var, r_c, r_seq, r_next, r_break, r_cont, r_drop, r_ret, r_retN, r_if, r_ife, r_asg, r_name, r_op, r_un, r_nil, r_cons, r_lst2, r_tup2, r_lc, r_for, r_ilist, r_itup, r_istr, r_irng1, r_irng2, r_ienum, r_ienumS, wipe, r_cb, r_test, r_b, r_not, r_notV, r_andV, r_orV, r_isN, r_notN, r_m1, r_m0, r_fld, sFld, putF, r_par, r_sub, r_gtup, r_gnil, r_gcons, r_sl, r_nopart, r_part, r_bm, r_bm0, r_chain, r_call, r_callK, r_meth, r_prop, r_make, r_and, r_or, andT_t, andT_f, orT_t, orT_f, ifK_t, ifK_f, ifE_t, ifE_f, andK_t, andK_f, orK_t, orK_f, L2.start, List.map_cons, List.map_nil, List.length_cons, List.length_nil, List.replicate_succ, List.replicate_zero, List.cons_append, List.nil_append, List.getElem?_cons_succ, List.getElem?_cons_zero, List.set_cons_succ, List.set_cons_zero, Nat.reduceAdd, Nat.reduceSub, Nat.zero_add, decide_true, decide_false, Bool.not_true, Bool.not_false, if_true, if_false, rEq, rNe, scal_ii, scal_ss, scal_bb, scal_is, scal_si, scal_ns, scal_ni, scal_in, scal_sn, scal_nn, rI, rI0, rU, rIxLH, rIxTH, rLenH, rLenTH, rSetL, rCatN, rTupOfN, rLstOfN, rSlLN, rSlTN, CDiv, CPow, CMul, CDivW, rNeNil, rLenO, rSplitN, rRepN, r_replC, rMulS, r_methK, rRepTN, r_cmK, rCmpO, Bool.false_xor, Bool.true_xor, r_starT, r_starL, r_cm, r_cval, selK_t, selK_f, rAppend, rIsK, reduceCtorEq, upd_same, at0, at1, at2, at3, at4, at5, at6, at7, at8, at9, at10, at11, at12, at13, ix3_0, ix3_1, ix3_2, V.int.injEq, V.bl.injEq, V.str.injEq, V.ref.injEq, Option.some.injEq, HO.lst.injEq, HO.tup.injEq, HO.ins.injEq, List.cons.injEq, and_true, true_and, exists_eq_left, exists_eq_left', exists_and_left, exists_eq', exists_eq, and_assoc, N_Path_len, ht]
  exact q

end

section
variable {gd : Bool} {P : Program} {w : World} {K : PySem.W.Frag} {mg : Str → Option Value} {base : Heap}

theorem Src.upd {H : Hp} {a D : Addr} {j : Int} {o : HO} (h : Src H a j) (n : H D = none ∨ a ≠ D) : Src (upd H D o) a j := by
  obtain ⟨c, d, e, z⟩ := h
  refine ⟨c, d, ?_, z⟩
  rw [upd_ne (fun q => ?_)]
  · exact e
  · rcases n with n | n
    · subst q
      rw [n] at e
      cases e
    · exact n q
theorem Src.ne {H : Hp} {a p : Addr} {j : Int} (h : Src H a j) (n : H p = none) : a ≠ p := fun e => by
  obtain ⟨c, d, q, z⟩ := h
  subst e
  rw [n] at q
  cases q
theorem Src.same {H H' : Hp} {a : Addr} {j : Int} (h : Src H a j) (s : Same H H') : Src H' a j := let ⟨c, d, e, z⟩ := h; ⟨c, d, s _ _ e, z⟩
def spGood : Sp := fun vs H Q _ => ∃ (a : Addr) (j : Int), vs = [.ref a] ∧ Src H a j ∧ j < 1099511627776 ∧ ∀ (z : Str) (j' : Int) (H' : Hp), isNm z = true → j ≤ j' → j' ≤ j + 1 → Oth a H H' → Src H' a j' → Q (.str z) H'
def goods : List Str := ["a", "b", "ab", "x.y", ".a", "a.", "a.b.c", "-", "_", "0", "abcdefghijkl", "a..b", "...", "..a", "a_1"]
def goodsN : List Str := ([[97], [98], [97, 98], [120, 46, 121], [46, 97], [97, 46], [97, 46, 98, 46, 99], [45], [95], [48], [97, 98, 99, 100, 101, 102, 103, 104, 105, 106, 107, 108], [97, 46, 46, 98], [46, 46, 46], [46, 46, 97], [97, 95, 49]] : List (List Nat)).map fun l => ⟨l.toArray⟩
theorem goods_eq : goods = goodsN := by decide +kernel
theorem goods_nm : ∀ x ∈ goods, isNm x = true := by
  rw [goods_eq]
  decide +kernel
theorem goods_len : (goods.map V.str).length = 15 := rfl
theorem ok_law_good_name (T : Tx fa fn K mg) : Fn gd P w K mg base 3 (aG "_law_good_name" K) [] spGood := by
  obtain ⟨fd, F⟩ := F_law_good_name T
  refine fn_all F sc_law_good_name (fun vs H Q E h => ?_) (b_law_good_name F) (fun cdv A outer s H vs Q E hr h => ⟨_, (pss_cons (ps_set (i := 1) sc_law_good_name.nd rfl (Or.inl rfl) (pe_lst (pa_cons pe_str (pa_cons pe_str (pa_cons pe_str (pa_cons pe_str (pa_cons pe_str (pa_cons pe_str (pa_cons pe_str (pa_cons pe_str (pa_cons pe_str (pa_cons pe_str (pa_cons pe_str (pa_cons pe_str (pa_cons pe_str (pa_cons pe_str (pa_cons pe_str pa_nil)))))))))))))))))
 (pss_one (ps_ret (pe_fn (ok_law_pick T) (hr.mono (by decide)) rfl (g_law_pick T) (k_law_pick T) passD (pa_cons (pv 0) (pa_cons (pv 1) pa_nil)))))), ?_⟩)
  · first | (obtain ⟨_, e, _⟩ := h; subst e; rfl) | (obtain ⟨_, _, e, _⟩ := h; subst e; rfl) | (obtain ⟨_, _, _, e, _⟩ := h; subst e; rfl) | (obtain ⟨_, _, _, _, e, _⟩ := h; subst e; rfl) | (obtain ⟨_, _, _, _, _, e, _⟩ := h; subst e; rfl) | (obtain ⟨_, _, _, _, _, _, e, _⟩ := h; subst e; rfl) | (obtain ⟨_, _, _, _, _, _, _, e, _⟩ := h; subst e; rfl) | (obtain ⟨_, _, _, _, _, _, _, _, e, _⟩ := h; subst e; rfl) | (obtain ⟨_, _, _, _, _, _, _, _, _, e, _⟩ := h; subst e; rfl) | (obtain ⟨_, _, _, _, _, _, _, _, _, _, e, _⟩ := h; subst e; rfl) | (obtain ⟨_, _, _, _, _, _, _, _, _, _, _, e, _⟩ := h; subst e; rfl)
  obtain ⟨a, j, rfl, hs, j1, q⟩ := h
  try simp only [cxK, r_lam, r_dnew, r_err, r_base, r_serr, r_var, r_c, r_seq, r_next, r_break, r_cont, r_drop, r_ret, r_retN, r_if, r_ife, r_asg, r_name, r_op, r_un, r_nil, r_cons, r_lst2, r_tup2, r_lc, r_for, r_ilist, r_itup, r_istr, r_irng1, r_irng2, r_ienum, r_ienumS, wipe, r_cb, r_test, r_b, r_not, r_notV, r_andV, r_orV, r_isN, r_notN, r_m1, r_m0, r_fld, sFld, putF, r_par, r_sub, r_gtup, r_gnil, r_gcons, r_sl, r_nopart, r_part, r_bm, r_bm0, r_chain, r_call, r_callK, r_meth, r_prop, r_make, r_and, r_or, andT_t, andT_f, orT_t, orT_f, ifK_t, ifK_f, ifE_t, ifE_f, andK_t, andK_f, orK_t, orK_f, L2.start, List.map_cons, List.map_nil, List.length_cons, List.length_nil, List.replicate_succ, List.replicate_zero, List.cons_append, List.nil_append, List.getElem?_cons_succ, List.getElem?_cons_zero, List.set_cons_succ, List.set_cons_zero, Nat.reduceAdd, Nat.reduceSub, Nat.zero_add, decide_true, decide_false, Bool.not_true, Bool.not_false, if_true, if_false, rEq, rNe, scal_ii, scal_ss, scal_bb, scal_is, scal_si, scal_ns, scal_ni, scal_in, scal_sn, scal_nn, rI, rI0, rU, rIxLH, rIxTH, rLenH, rLenTH, rSetL, rCatN, rTupOfN, rLstOfN, rSlLN, rSlTN, CDiv, CPow, CMul, CDivW, rNeNil, rLenO, rSplitN, rRepN, r_replC, rMulS, r_methK, rRepTN, r_cmK, rCmpO, Bool.false_xor, Bool.true_xor, r_starT, r_starL, r_cm, r_cval, selK_t, selK_f, rAppend, rIsK, reduceCtorEq, upd_same, at0, at1, at2, at3, at4, at5, at6, at7, at8, at9, at10, at11, at12, at13, ix3_0, ix3_1, ix3_2, V.int.injEq, V.bl.injEq, V.str.injEq, V.ref.injEq, Option.some.injEq, HO.lst.injEq, HO.tup.injEq, HO.ins.injEq, List.cons.injEq, and_true, true_and, exists_eq_left, exists_eq_left', exists_and_left, exists_eq', exists_eq, and_assoc, N_law_good_name]
  refine ⟨fits (by decide), fun l H1 n1 => ?_⟩
  try simp only [cxK, r_lam, r_dnew, r_err, r_base, r_serr, r_var, r_c, r_seq, r_next, r_break, r_cont, r_drop, r_ret, r_retN, r_if, r_ife, r_asg, r_name, r_op, r_un, r_nil, r_cons, r_lst2, r_tup2, r_lc, r_for, r_ilist, r_itup, r_istr, r_irng1, r_irng2, r_ienum, r_ienumS, wipe, r_cb, r_test, r_b, r_not, r_notV, r_andV, r_orV, r_isN, r_notN, r_m1, r_m0, r_fld, sFld, putF, r_par, r_sub, r_gtup, r_gnil, r_gcons, r_sl, r_nopart, r_part, r_bm, r_bm0, r_chain, r_call, r_callK, r_meth, r_prop, r_make, r_and, r_or, andT_t, andT_f, orT_t, orT_f, ifK_t, ifK_f, ifE_t, ifE_f, andK_t, andK_f, orK_t, orK_f, L2.start, List.map_cons, List.map_nil, List.length_cons, List.length_nil, List.replicate_succ, List.replicate_zero, List.cons_append, List.nil_append, List.getElem?_cons_succ, List.getElem?_cons_zero, List.set_cons_succ, List.set_cons_zero, Nat.reduceAdd, Nat.reduceSub, Nat.zero_add, decide_true, decide_false, Bool.not_true, Bool.not_false, if_true, if_false, rEq, rNe, scal_ii, scal_ss, scal_bb, scal_is, scal_si, scal_ns, scal_ni, scal_in, scal_sn, scal_nn, rI, rI0, rU, rIxLH, rIxTH, rLenH, rLenTH, rSetL, rCatN, rTupOfN, rLstOfN, rSlLN, rSlTN, CDiv, CPow, CMul, CDivW, rNeNil, rLenO, rSplitN, rRepN, r_replC, rMulS, r_methK, rRepTN, r_cmK, rCmpO, Bool.false_xor, Bool.true_xor, r_starT, r_starL, r_cm, r_cval, selK_t, selK_f, rAppend, rIsK, reduceCtorEq, upd_same, at0, at1, at2, at3, at4, at5, at6, at7, at8, at9, at10, at11, at12, at13, ix3_0, ix3_1, ix3_2, V.int.injEq, V.bl.injEq, V.str.injEq, V.ref.injEq, Option.some.injEq, HO.lst.injEq, HO.tup.injEq, HO.ins.injEq, List.cons.injEq, and_true, true_and, exists_eq_left, exists_eq_left', exists_and_left, exists_eq', exists_eq, and_assoc, N_law_good_name]
  have hat : H1 l = some (.lst (goods.map V.str)) := n1.at_
  refine ⟨a, l, j, goods.map V.str, rfl, fun e => hs.ne n1.1 e.symm, hat, by rw [goods_len]; omega, by rw [goods_len]; omega, hs.same n1.same, j1, fun i v j' H' hi j2 j3 ho hs' => ?_⟩
  rw [List.getElem?_map] at hi
  obtain ⟨z, hz, rfl⟩ := Option.map_eq_some_iff.mp hi
  exact q z j' H' (goods_nm z (List.mem_of_getElem? hz)) j2 j3 (Oth.trans (Oth.of n1.same) ho) hs'
def spRow : Sp := fun vs H Q _ => ∃ (a : Addr) (m j : Int), vs = [.ref a, .int m] ∧ 0 ≤ m ∧ m ≤ 1000 ∧ Src H a j ∧ j < 1000000000000 ∧
  ∀ (ns : List Str) (p : Addr) (j' : Int) (H' : Hp), (ns.length : Int) ≤ m → (∀ x ∈ ns, isNm x = true) → H p = none → j ≤ j' → j' ≤ j + 1 + m → Oth a H H' → Src H' a j' → H' p = some (.lst (ns.map V.str)) → Q (.ref p) H'
def RowPv (H : Hp) (a : Addr) (j : Int) (D : Addr) (i : Nat) (acc : List V) (H2 : Hp) : Prop := ∃ (ns : List Str) (j2 : Int), acc = ns.map V.str ∧ (∀ x ∈ ns, isNm x = true) ∧ j ≤ j2 ∧ j2 ≤ j + 1 + i ∧ Oth a H H2 ∧ Src H2 a j2 ∧ H D = none
end

section
variable {gd : Bool} {P : Program} {w : World} {K : PySem.W.Frag} {mg : Str → Option Value} {base : Heap}

/-- the words of the three errors of paths -/
def badW (K : PySem.W.Frag) : List (Addr × Str) := [(ga K "BadName", "name"), (ga K "BadPath", "path"), (ga K "BadNumber", "number")]
/-- what _law_invalid makes of a call: '' or the error's word -/
def TTinv (K : PySem.W.Frag) : (XK → Hp → VK → Prop) → Hp → VK → Prop := fun tl H Q =>
  tl (fun cls d H' => ∃ (C dd : Addr) (nm : Str) (fs : List (Str × V)), cls = .ref C ∧ (C, nm) ∈ badW K ∧ d = some dd ∧ H' dd = some (.xd fs) ∧ ∀ H2, Same H' H2 → Q (.str nm) H2) H (fun _ H' => Q (.str "") H')
def kinds3 (b0 b1 b2 : Bool) : List (Str × Bool) := [("name", b0), ("path", b1), ("number", b2)]
theorem bad_kinds {K : PySem.W.Frag} {mg : Str → Option Value} (T : Tx fa fn K mg) {C : Addr} {nm : Str} (hC : (C, nm) ∈ badW K) : ExcC K C ∧ PySem.W.exmOne K (.ref C) (.ref (ga K "Invalid")) = some true ∧ ∃ b0 b1 b2 : Bool,
    PySem.W.kitOne K (.ref C) (.ref (ga K "BadName")) = some b0 ∧ PySem.W.kitOne K (.ref C) (.ref (ga K "BadPath")) = some b1 ∧ PySem.W.kitOne K (.ref C) (.ref (ga K "BadNumber")) = some b2 ∧
    ((((kinds3 b0 b1 b2).filter fun p => p.2).map fun p => V.str p.1) ++ [V.str "another"])[0]? = some (V.str nm) := by
  simp only [badW, List.mem_cons, List.not_mem_nil, or_false, Prod.mk.injEq] at hC
  rcases hC with ⟨rfl, rfl⟩ | ⟨rfl, rfl⟩ | ⟨rfl, rfl⟩
  · exact ⟨(excC_ok (T.c.fact 16 (f := fExcC "BadName") rfl)), (exmF_ok (T.c.fact 17 (f := fExm "BadName" "Invalid" true) rfl)), true, false, false, (kit_ok (T.c.fact 18 (f := fKit (fun K => .ref (ga K "BadName")) (fun K => .ref (ga K "BadName")) true) rfl)), (kit_ok (T.c.fact 19 (f := fKit (fun K => .ref (ga K "BadName")) (fun K => .ref (ga K "BadPath")) false) rfl)), (kit_ok (T.c.fact 20 (f := fKit (fun K => .ref (ga K "BadName")) (fun K => .ref (ga K "BadNumber")) false) rfl)), rfl⟩
  · exact ⟨(excC_ok (T.c.fact 21 (f := fExcC "BadPath") rfl)), (exmF_ok (T.c.fact 22 (f := fExm "BadPath" "Invalid" true) rfl)), false, true, false, (kit_ok (T.c.fact 23 (f := fKit (fun K => .ref (ga K "BadPath")) (fun K => .ref (ga K "BadName")) false) rfl)), (kit_ok (T.c.fact 24 (f := fKit (fun K => .ref (ga K "BadPath")) (fun K => .ref (ga K "BadPath")) true) rfl)), (kit_ok (T.c.fact 25 (f := fKit (fun K => .ref (ga K "BadPath")) (fun K => .ref (ga K "BadNumber")) false) rfl)), rfl⟩
  · exact ⟨(excC_ok (T.c.fact 26 (f := fExcC "BadNumber") rfl)), (exmF_ok (T.c.fact 27 (f := fExm "BadNumber" "Invalid" true) rfl)), false, false, true, (kit_ok (T.c.fact 28 (f := fKit (fun K => .ref (ga K "BadNumber")) (fun K => .ref (ga K "BadName")) false) rfl)), (kit_ok (T.c.fact 29 (f := fKit (fun K => .ref (ga K "BadNumber")) (fun K => .ref (ga K "BadPath")) false) rfl)), (kit_ok (T.c.fact 30 (f := fKit (fun K => .ref (ga K "BadNumber")) (fun K => .ref (ga K "BadNumber")) true) rfl)), rfl⟩
def InvPv (G : Hp) (ws : List (Str × Bool)) (_ : Addr) (i : Nat) (acc : List V) (H' : Hp) : Prop := Same G H' ∧ acc = ((ws.take i).filter fun p => p.2).map fun p => V.str p.1
theorem inv_gives {X : Cx} {q : Str} {g : Addr} {cdg : Value} (T : Tx fa fn X.K X.mg) : LamX.GivesTo X N_law_invalid "_law_invalid" (defScope s_law_invalid) g cdg (defBody s_law_invalid) "_law_call_so" q (TTinv X.K) := by
  intro f c s H Q tl act hc h
  have hr : True := trivial
  refine ⟨_, (pss_cons (ps_set (i := 1) sc_law_invalid.nd rfl (Or.inl rfl) pe_non)
 (pss_cons (ps_try_keep (i := 2) (c := .ref (ga _ "Invalid")) rfl rfl sc_law_invalid.nd rfl rfl ⟨rfl, by decide, Or.inl (T.glo (T.c.fact 3 (f := fGlo "Invalid") rfl))⟩ takes0 (fun W pn xe tk _ => act_stmt (n := 6) rfl fun E hW => act _ pn xe E _ _ (takes_len tk) hW) (fun a oe cls d pn hz hf => (pss_one (ps_set (i := 1) sc_law_invalid.nd rfl (Or.inl rfl) (pv 2)))))
 (pss_cons (ps_if (pt_cmpR op_isN (pv 1) pe_non (nomark _))
 (pss_one (ps_ret pe_str))
 pss_nil)
 (pss_cons (ps_set (i := 3) sc_law_invalid.nd rfl (Or.inl rfl) (pe_lst (pa_cons (pe_tup (pa_cons pe_str (pa_cons (pe_callB call_isk (by rfl) (T.free (T.c.fact 9 (f := fFree "isinstance") rfl)) (by decide +kernel) (pa_cons (pv 1) (pa_cons (pe_glob (v := .ref (ga _ "BadName")) rfl (T.glo (T.c.fact 13 (f := fGlo "BadName") rfl)) rfl) pa_nil))) pa_nil))) (pa_cons (pe_tup (pa_cons pe_str (pa_cons (pe_callB call_isk (by rfl) (T.free (T.c.fact 9 (f := fFree "isinstance") rfl)) (by decide +kernel) (pa_cons (pv 1) (pa_cons (pe_glob (v := .ref (ga _ "BadPath")) rfl (T.glo (T.c.fact 12 (f := fGlo "BadPath") rfl)) rfl) pa_nil))) pa_nil))) pa_nil))))
 (pss_cons (ps_expr (pe_bm PySem.F.plainAttrs_list PySem.F.slot_list_append PySem.F.type_list_append mt_append (pv 3) (pa_cons (pe_tup (pa_cons pe_str (pa_cons (pe_callB call_isk (by rfl) (T.free (T.c.fact 9 (f := fFree "isinstance") rfl)) (by decide +kernel) (pa_cons (pv 1) (pa_cons (pe_glob (v := .ref (ga _ "BadNumber")) rfl (T.glo (T.c.fact 31 (f := fGlo "BadNumber") rfl)) rfl) pa_nil))) pa_nil))) pa_nil)))
 (pss_one (ps_ret (pe_ix ix_lh (pe_op op_cat_n (pe_lc (own := [("_law_word", 4), ("_law_is_so", 5)]) (g := gTup X.K 2 (gCons (gName 4) (gCons (gName 5) gNil))) rfl sc_law_invalid.nd (pi_list (pv 3)) (blkOk_by (own := [("_law_word", 4), ("_law_is_so", 5)]) (N := N_law_invalid) (sc := defScope s_law_invalid) (by decide +kernel)) (fun _ _ _ _ _ => (pg_tup (by rfl) (pgs_cons (pg_name (i := 4) sc_law_invalid.nd rfl (Or.inl rfl)) (pgs_cons (pg_name (i := 5) sc_law_invalid.nd rfl (Or.inl rfl)) pgs_nil)))) (fun _ _ _ _ _ => (pts_one (pt_val (pv 5)))) (fun _ _ _ _ _ => (pv 4))) (pe_lst (pa_cons pe_str pa_nil))) pe_int (fun _ _ => rfl))))))))), ?_⟩
  try simp only [cxK, r_lam, r_dnew, r_err, r_base, r_serr, r_var, r_c, r_seq, r_next, r_break, r_cont, r_drop, r_ret, r_retN, r_if, r_ife, r_asg, r_name, r_op, r_un, r_nil, r_cons, r_lst2, r_tup2, r_lc, r_for, r_ilist, r_itup, r_istr, r_irng1, r_irng2, r_ienum, r_ienumS, wipe, r_cb, r_test, r_b, r_not, r_notV, r_andV, r_orV, r_isN, r_notN, r_m1, r_m0, r_fld, sFld, putF, r_par, r_sub, r_gtup, r_gnil, r_gcons, r_sl, r_nopart, r_part, r_bm, r_bm0, r_chain, r_call, r_callK, r_meth, r_prop, r_make, r_and, r_or, andT_t, andT_f, orT_t, orT_f, ifK_t, ifK_f, ifE_t, ifE_f, andK_t, andK_f, orK_t, orK_f, L2.start, List.map_cons, List.map_nil, List.length_cons, List.length_nil, List.replicate_succ, List.replicate_zero, List.cons_append, List.nil_append, List.getElem?_cons_succ, List.getElem?_cons_zero, List.set_cons_succ, List.set_cons_zero, Nat.reduceAdd, Nat.reduceSub, Nat.zero_add, decide_true, decide_false, Bool.not_true, Bool.not_false, if_true, if_false, rEq, rNe, scal_ii, scal_ss, scal_bb, scal_is, scal_si, scal_ns, scal_ni, scal_in, scal_sn, scal_nn, rI, rI0, rU, rIxLH, rIxTH, rLenH, rLenTH, rSetL, rCatN, rTupOfN, rLstOfN, rSlLN, rSlTN, CDiv, CPow, CMul, CDivW, rNeNil, rLenO, rSplitN, rRepN, r_replC, rMulS, r_methK, rRepTN, r_cmK, rCmpO, Bool.false_xor, Bool.true_xor, r_starT, r_starL, r_cm, r_cval, selK_t, selK_f, rAppend, rIsK, reduceCtorEq, upd_same, at0, at1, at2, at3, at4, at5, at6, at7, at8, at9, at10, at11, at12, at13, ix3_0, ix3_1, ix3_2, V.int.injEq, V.bl.injEq, V.str.injEq, V.ref.injEq, Option.some.injEq, HO.lst.injEq, HO.tup.injEq, HO.ins.injEq, List.cons.injEq, and_true, true_and, exists_eq_left, exists_eq_left', exists_and_left, exists_eq', exists_eq, and_assoc, N_law_good_name]
  refine ⟨_, fun cls d σ' H' hE len => ?_, hc, h⟩
  obtain ⟨C, dd, nm, fs, rfl, hC, rfl, hdd, q⟩ := hE
  match σ', len with
  | [w0, w1, w2, w3, w4, w5], _ =>
  obtain ⟨eC, ex, b0, b1, b2, k0, k1, k2, sel⟩ := bad_kinds T hC
  refine ⟨true, ex, fun _ a na => ?_, fun z => nomatch z⟩
  try simp only [cxK, r_lam, r_dnew, r_err, r_base, r_serr, r_var, r_c, r_seq, r_next, r_break, r_cont, r_drop, r_ret, r_retN, r_if, r_ife, r_asg, r_name, r_op, r_un, r_nil, r_cons, r_lst2, r_tup2, r_lc, r_for, r_ilist, r_itup, r_istr, r_irng1, r_irng2, r_ienum, r_ienumS, wipe, r_cb, r_test, r_b, r_not, r_notV, r_andV, r_orV, r_isN, r_notN, r_m1, r_m0, r_fld, sFld, putF, r_par, r_sub, r_gtup, r_gnil, r_gcons, r_sl, r_nopart, r_part, r_bm, r_bm0, r_chain, r_call, r_callK, r_meth, r_prop, r_make, r_and, r_or, andT_t, andT_f, orT_t, orT_f, ifK_t, ifK_f, ifE_t, ifE_f, andK_t, andK_f, orK_t, orK_f, L2.start, List.map_cons, List.map_nil, List.length_cons, List.length_nil, List.replicate_succ, List.replicate_zero, List.cons_append, List.nil_append, List.getElem?_cons_succ, List.getElem?_cons_zero, List.set_cons_succ, List.set_cons_zero, Nat.reduceAdd, Nat.reduceSub, Nat.zero_add, decide_true, decide_false, Bool.not_true, Bool.not_false, if_true, if_false, rEq, rNe, scal_ii, scal_ss, scal_bb, scal_is, scal_si, scal_ns, scal_ni, scal_in, scal_sn, scal_nn, rI, rI0, rU, rIxLH, rIxTH, rLenH, rLenTH, rSetL, rCatN, rTupOfN, rLstOfN, rSlLN, rSlTN, CDiv, CPow, CMul, CDivW, rNeNil, rLenO, rSplitN, rRepN, r_replC, rMulS, r_methK, rRepTN, r_cmK, rCmpO, Bool.false_xor, Bool.true_xor, r_starT, r_starL, r_cm, r_cval, selK_t, selK_f, rAppend, rIsK, reduceCtorEq, upd_same, at0, at1, at2, at3, at4, at5, at6, at7, at8, at9, at10, at11, at12, at13, ix3_0, ix3_1, ix3_2, V.int.injEq, V.bl.injEq, V.str.injEq, V.ref.injEq, Option.some.injEq, HO.lst.injEq, HO.tup.injEq, HO.ins.injEq, List.cons.injEq, and_true, true_and, exists_eq_left, exists_eq_left', exists_and_left, exists_eq', exists_eq, and_assoc, N_law_good_name]
  have da : dd ≠ a := fun e => by rw [e, na] at hdd; cases hdd
  have s0 : Same H' (upd H' a (exk a (.ref C) (some dd))) := IsNew.same ⟨na, rfl⟩
  obtain ⟨G0, eG⟩ : ∃ G0, G0 = upd H' a (exk a (.ref C) (some dd)) := ⟨_, rfl⟩
  rw [← eG] at s0 ⊢
  have ha0 : G0 a = some (exk a (.ref C) (some dd)) := by rw [eG]; exact upd_same
  have hd0 := s0 _ _ hdd
  refine ⟨dd, C, rfl, fs, hd0, eC, b0, k0, fits (by decide), fun p0 G1 n1 => ?_⟩
  have ha1 := n1.old ha0
  have hd1 := n1.old hd0
  refine ⟨dd, C, ha1, fs, hd1, eC, b1, k1, fits (by decide), fun p1 G2 n2 => ⟨fits (by decide), fun l G3 n3 => ?_⟩⟩
  have ha3 := n3.old (n2.old ha1)
  have hd3 := n3.old (n2.old hd1)
  have hl3 := n3.at_
  refine ⟨Or.inl ⟨rfl, _, SqL.of hl3⟩, dd, C, ha3, fs, hd3, eC, b2, k2, fits (by decide), fun p2 G4 n4 => ?_⟩
  have hl4 := n4.old hl3
  try simp only [cxK, r_lam, r_dnew, r_err, r_base, r_serr, r_var, r_c, r_seq, r_next, r_break, r_cont, r_drop, r_ret, r_retN, r_if, r_ife, r_asg, r_name, r_op, r_un, r_nil, r_cons, r_lst2, r_tup2, r_lc, r_for, r_ilist, r_itup, r_istr, r_irng1, r_irng2, r_ienum, r_ienumS, wipe, r_cb, r_test, r_b, r_not, r_notV, r_andV, r_orV, r_isN, r_notN, r_m1, r_m0, r_fld, sFld, putF, r_par, r_sub, r_gtup, r_gnil, r_gcons, r_sl, r_nopart, r_part, r_bm, r_bm0, r_chain, r_call, r_callK, r_meth, r_prop, r_make, r_and, r_or, andT_t, andT_f, orT_t, orT_f, ifK_t, ifK_f, ifE_t, ifE_f, andK_t, andK_f, orK_t, orK_f, L2.start, List.map_cons, List.map_nil, List.length_cons, List.length_nil, List.replicate_succ, List.replicate_zero, List.cons_append, List.nil_append, List.getElem?_cons_succ, List.getElem?_cons_zero, List.set_cons_succ, List.set_cons_zero, Nat.reduceAdd, Nat.reduceSub, Nat.zero_add, decide_true, decide_false, Bool.not_true, Bool.not_false, if_true, if_false, rEq, rNe, scal_ii, scal_ss, scal_bb, scal_is, scal_si, scal_ns, scal_ni, scal_in, scal_sn, scal_nn, rI, rI0, rU, rIxLH, rIxTH, rLenH, rLenTH, rSetL, rCatN, rTupOfN, rLstOfN, rSlLN, rSlTN, CDiv, CPow, CMul, CDivW, rNeNil, rLenO, rSplitN, rRepN, r_replC, rMulS, r_methK, rRepTN, r_cmK, rCmpO, Bool.false_xor, Bool.true_xor, r_starT, r_starL, r_cm, r_cval, selK_t, selK_f, rAppend, rIsK, reduceCtorEq, upd_same, at0, at1, at2, at3, at4, at5, at6, at7, at8, at9, at10, at11, at12, at13, ix3_0, ix3_1, ix3_2, V.int.injEq, V.bl.injEq, V.str.injEq, V.ref.injEq, Option.some.injEq, HO.lst.injEq, HO.tup.injEq, HO.ins.injEq, List.cons.injEq, and_true, true_and, exists_eq_left, exists_eq_left', exists_and_left, exists_eq', exists_eq, and_assoc, N_law_good_name, hl4]
  have hl' : H' l = none := by
    cases e : H' l with
    | none => rfl
    | some o =>
      have z := n2.old (n1.old (s0 _ _ e))
      rw [n3.1] at z
      cases z
  obtain ⟨G5, e5⟩ : ∃ G5, G5 = upd G4 l (.lst [.ref p0, .ref p1, .ref p2]) := ⟨_, rfl⟩
  rw [← e5]
  have s5 : Same H' G5 := by
    rw [e5]
    exact same_upd hl' (same_trans s0 (same_trans n1.same (same_trans n2.same (same_trans n3.same n4.same))))
  have hl5 : G5 l = some (.lst [.ref p0, .ref p1, .ref p2]) := by rw [e5]; exact upd_same
  have ne : ∀ {p : Addr} {xs : List V}, G4 p = some (.tup xs) → G5 p = some (.tup xs) := fun {p xs} h => by
    rw [e5, upd_ne (fun e => by rw [e, hl4] at h; cases h)]
    exact h
  have t0 := ne (n4.old (n3.old (n2.old n1.at_)))
  have t1 := ne (n4.old (n3.old n2.at_))
  have t2 := ne n4.at_
  have rows : ∀ (i : Nat) (v : V), ([.ref p0, .ref p1, .ref p2] : List V)[i]? = some v → ∃ (p : Addr) (wd : Str) (b : Bool), v = .ref p ∧ (kinds3 b0 b1 b2)[i]? = some (wd, b) ∧ G5 p = some (.tup [.str wd, .bl b]) := fun i v hv => by
    have hi : i < 3 := idx_lt hv
    match i, hi, hv with
    | 0, _, hv => exact ⟨p0, _, _, (Option.some.inj hv).symm, rfl, t0⟩
    | 1, _, hv => exact ⟨p1, _, _, (Option.some.inj hv).symm, rfl, t1⟩
    | 2, _, hv => exact ⟨p2, _, _, (Option.some.inj hv).symm, rfl, t2⟩
  refine ⟨by rw [sizeLine_eq]; decide, ⟨_, SqL.of hl5⟩, ?_⟩
  refine lcK_itT walk_list (InvPv G5 (kinds3 b0 b1 b2)) (fun D H0 n0 => ⟨n0.same, rfl⟩) (fun D i acc H1 nD hi hD p => SqL.of (p.1 _ _ hl5)) ?_ ?_
  · rintro D i x acc H1 H2 nD hi hD hlen ⟨sm, ea⟩ ⟨rfl, hx⟩
    obtain ⟨p, wd, b, rfl, hk, hp⟩ := rows i x hx
    have hp2 := sm _ _ hp
    try simp only [cxK, r_lam, r_dnew, r_err, r_base, r_serr, r_var, r_c, r_seq, r_next, r_break, r_cont, r_drop, r_ret, r_retN, r_if, r_ife, r_asg, r_name, r_op, r_un, r_nil, r_cons, r_lst2, r_tup2, r_lc, r_for, r_ilist, r_itup, r_istr, r_irng1, r_irng2, r_ienum, r_ienumS, wipe, r_cb, r_test, r_b, r_not, r_notV, r_andV, r_orV, r_isN, r_notN, r_m1, r_m0, r_fld, sFld, putF, r_par, r_sub, r_gtup, r_gnil, r_gcons, r_sl, r_nopart, r_part, r_bm, r_bm0, r_chain, r_call, r_callK, r_meth, r_prop, r_make, r_and, r_or, andT_t, andT_f, orT_t, orT_f, ifK_t, ifK_f, ifE_t, ifE_f, andK_t, andK_f, orK_t, orK_f, L2.start, List.map_cons, List.map_nil, List.length_cons, List.length_nil, List.replicate_succ, List.replicate_zero, List.cons_append, List.nil_append, List.getElem?_cons_succ, List.getElem?_cons_zero, List.set_cons_succ, List.set_cons_zero, Nat.reduceAdd, Nat.reduceSub, Nat.zero_add, decide_true, decide_false, Bool.not_true, Bool.not_false, if_true, if_false, rEq, rNe, scal_ii, scal_ss, scal_bb, scal_is, scal_si, scal_ns, scal_ni, scal_in, scal_sn, scal_nn, rI, rI0, rU, rIxLH, rIxTH, rLenH, rLenTH, rSetL, rCatN, rTupOfN, rLstOfN, rSlLN, rSlTN, CDiv, CPow, CMul, CDivW, rNeNil, rLenO, rSplitN, rRepN, r_replC, rMulS, r_methK, rRepTN, r_cmK, rCmpO, Bool.false_xor, Bool.true_xor, r_starT, r_starL, r_cm, r_cval, selK_t, selK_f, rAppend, rIsK, reduceCtorEq, upd_same, at0, at1, at2, at3, at4, at5, at6, at7, at8, at9, at10, at11, at12, at13, ix3_0, ix3_1, ix3_2, V.int.injEq, V.bl.injEq, V.str.injEq, V.ref.injEq, Option.some.injEq, HO.lst.injEq, HO.tup.injEq, HO.ins.injEq, List.cons.injEq, and_true, true_and, exists_eq_left, exists_eq_left', exists_and_left, exists_eq', exists_eq, and_assoc, N_law_good_name]
    refine ⟨_, SqT.of hp2, rfl, ?_⟩
    try simp only [cxK, r_lam, r_dnew, r_err, r_base, r_serr, r_var, r_c, r_seq, r_next, r_break, r_cont, r_drop, r_ret, r_retN, r_if, r_ife, r_asg, r_name, r_op, r_un, r_nil, r_cons, r_lst2, r_tup2, r_lc, r_for, r_ilist, r_itup, r_istr, r_irng1, r_irng2, r_ienum, r_ienumS, wipe, r_cb, r_test, r_b, r_not, r_notV, r_andV, r_orV, r_isN, r_notN, r_m1, r_m0, r_fld, sFld, putF, r_par, r_sub, r_gtup, r_gnil, r_gcons, r_sl, r_nopart, r_part, r_bm, r_bm0, r_chain, r_call, r_callK, r_meth, r_prop, r_make, r_and, r_or, andT_t, andT_f, orT_t, orT_f, ifK_t, ifK_f, ifE_t, ifE_f, andK_t, andK_f, orK_t, orK_f, L2.start, List.map_cons, List.map_nil, List.length_cons, List.length_nil, List.replicate_succ, List.replicate_zero, List.cons_append, List.nil_append, List.getElem?_cons_succ, List.getElem?_cons_zero, List.set_cons_succ, List.set_cons_zero, Nat.reduceAdd, Nat.reduceSub, Nat.zero_add, decide_true, decide_false, Bool.not_true, Bool.not_false, if_true, if_false, rEq, rNe, scal_ii, scal_ss, scal_bb, scal_is, scal_si, scal_ns, scal_ni, scal_in, scal_sn, scal_nn, rI, rI0, rU, rIxLH, rIxTH, rLenH, rLenTH, rSetL, rCatN, rTupOfN, rLstOfN, rSlLN, rSlTN, CDiv, CPow, CMul, CDivW, rNeNil, rLenO, rSplitN, rRepN, r_replC, rMulS, r_methK, rRepTN, r_cmK, rCmpO, Bool.false_xor, Bool.true_xor, r_starT, r_starL, r_cm, r_cval, selK_t, selK_f, rAppend, rIsK, reduceCtorEq, upd_same, at0, at1, at2, at3, at4, at5, at6, at7, at8, at9, at10, at11, at12, at13, ix3_0, ix3_1, ix3_2, V.int.injEq, V.bl.injEq, V.str.injEq, V.ref.injEq, Option.some.injEq, HO.lst.injEq, HO.tup.injEq, HO.ins.injEq, List.cons.injEq, and_true, true_and, exists_eq_left, exists_eq_left', exists_and_left, exists_eq', exists_eq, and_assoc, N_law_good_name]
    have tk : (kinds3 b0 b1 b2).take (i + 1) = (kinds3 b0 b1 b2).take i ++ [(wd, b)] := by rw [List.take_add_one, hk] <;> rfl
    cases b with
    | true =>
      try simp only [cxK, r_lam, r_dnew, r_err, r_base, r_serr, r_var, r_c, r_seq, r_next, r_break, r_cont, r_drop, r_ret, r_retN, r_if, r_ife, r_asg, r_name, r_op, r_un, r_nil, r_cons, r_lst2, r_tup2, r_lc, r_for, r_ilist, r_itup, r_istr, r_irng1, r_irng2, r_ienum, r_ienumS, wipe, r_cb, r_test, r_b, r_not, r_notV, r_andV, r_orV, r_isN, r_notN, r_m1, r_m0, r_fld, sFld, putF, r_par, r_sub, r_gtup, r_gnil, r_gcons, r_sl, r_nopart, r_part, r_bm, r_bm0, r_chain, r_call, r_callK, r_meth, r_prop, r_make, r_and, r_or, andT_t, andT_f, orT_t, orT_f, ifK_t, ifK_f, ifE_t, ifE_f, andK_t, andK_f, orK_t, orK_f, L2.start, List.map_cons, List.map_nil, List.length_cons, List.length_nil, List.replicate_succ, List.replicate_zero, List.cons_append, List.nil_append, List.getElem?_cons_succ, List.getElem?_cons_zero, List.set_cons_succ, List.set_cons_zero, Nat.reduceAdd, Nat.reduceSub, Nat.zero_add, decide_true, decide_false, Bool.not_true, Bool.not_false, if_true, if_false, rEq, rNe, scal_ii, scal_ss, scal_bb, scal_is, scal_si, scal_ns, scal_ni, scal_in, scal_sn, scal_nn, rI, rI0, rU, rIxLH, rIxTH, rLenH, rLenTH, rSetL, rCatN, rTupOfN, rLstOfN, rSlLN, rSlTN, CDiv, CPow, CMul, CDivW, rNeNil, rLenO, rSplitN, rRepN, r_replC, rMulS, r_methK, rRepTN, r_cmK, rCmpO, Bool.false_xor, Bool.true_xor, r_starT, r_starL, r_cm, r_cval, selK_t, selK_f, rAppend, rIsK, reduceCtorEq, upd_same, at0, at1, at2, at3, at4, at5, at6, at7, at8, at9, at10, at11, at12, at13, ix3_0, ix3_1, ix3_2, V.int.injEq, V.bl.injEq, V.str.injEq, V.ref.injEq, Option.some.injEq, HO.lst.injEq, HO.tup.injEq, HO.ins.injEq, List.cons.injEq, and_true, true_and, exists_eq_left, exists_eq_left', exists_and_left, exists_eq', exists_eq, and_assoc, N_law_good_name]
      refine addK_mkT hD hlen (by have : i < 3 := hi; omega) ⟨same_upd nD sm, ?_⟩
      rw [tk, ea]
      simp
    | false =>
      try simp only [cxK, r_lam, r_dnew, r_err, r_base, r_serr, r_var, r_c, r_seq, r_next, r_break, r_cont, r_drop, r_ret, r_retN, r_if, r_ife, r_asg, r_name, r_op, r_un, r_nil, r_cons, r_lst2, r_tup2, r_lc, r_for, r_ilist, r_itup, r_istr, r_irng1, r_irng2, r_ienum, r_ienumS, wipe, r_cb, r_test, r_b, r_not, r_notV, r_andV, r_orV, r_isN, r_notN, r_m1, r_m0, r_fld, sFld, putF, r_par, r_sub, r_gtup, r_gnil, r_gcons, r_sl, r_nopart, r_part, r_bm, r_bm0, r_chain, r_call, r_callK, r_meth, r_prop, r_make, r_and, r_or, andT_t, andT_f, orT_t, orT_f, ifK_t, ifK_f, ifE_t, ifE_f, andK_t, andK_f, orK_t, orK_f, L2.start, List.map_cons, List.map_nil, List.length_cons, List.length_nil, List.replicate_succ, List.replicate_zero, List.cons_append, List.nil_append, List.getElem?_cons_succ, List.getElem?_cons_zero, List.set_cons_succ, List.set_cons_zero, Nat.reduceAdd, Nat.reduceSub, Nat.zero_add, decide_true, decide_false, Bool.not_true, Bool.not_false, if_true, if_false, rEq, rNe, scal_ii, scal_ss, scal_bb, scal_is, scal_si, scal_ns, scal_ni, scal_in, scal_sn, scal_nn, rI, rI0, rU, rIxLH, rIxTH, rLenH, rLenTH, rSetL, rCatN, rTupOfN, rLstOfN, rSlLN, rSlTN, CDiv, CPow, CMul, CDivW, rNeNil, rLenO, rSplitN, rRepN, r_replC, rMulS, r_methK, rRepTN, r_cmK, rCmpO, Bool.false_xor, Bool.true_xor, r_starT, r_starL, r_cm, r_cval, selK_t, selK_f, rAppend, rIsK, reduceCtorEq, upd_same, at0, at1, at2, at3, at4, at5, at6, at7, at8, at9, at10, at11, at12, at13, ix3_0, ix3_1, ix3_2, V.int.injEq, V.bl.injEq, V.str.injEq, V.ref.injEq, Option.some.injEq, HO.lst.injEq, HO.tup.injEq, HO.ins.injEq, List.cons.injEq, and_true, true_and, exists_eq_left, exists_eq_left', exists_and_left, exists_eq', exists_eq, and_assoc, N_law_good_name]
      refine ⟨acc, hD, by omega, sm, ?_⟩
      rw [tk, ea]
      simp
  · rintro D acc H1 nD hD ⟨sm, ea⟩
    have ea2 : acc = ((kinds3 b0 b1 b2).filter fun p => p.2).map fun p => V.str p.1 := ea
    try simp only [cxK, r_lam, r_dnew, r_err, r_base, r_serr, r_var, r_c, r_seq, r_next, r_break, r_cont, r_drop, r_ret, r_retN, r_if, r_ife, r_asg, r_name, r_op, r_un, r_nil, r_cons, r_lst2, r_tup2, r_lc, r_for, r_ilist, r_itup, r_istr, r_irng1, r_irng2, r_ienum, r_ienumS, wipe, r_cb, r_test, r_b, r_not, r_notV, r_andV, r_orV, r_isN, r_notN, r_m1, r_m0, r_fld, sFld, putF, r_par, r_sub, r_gtup, r_gnil, r_gcons, r_sl, r_nopart, r_part, r_bm, r_bm0, r_chain, r_call, r_callK, r_meth, r_prop, r_make, r_and, r_or, andT_t, andT_f, orT_t, orT_f, ifK_t, ifK_f, ifE_t, ifE_f, andK_t, andK_f, orK_t, orK_f, L2.start, List.map_cons, List.map_nil, List.length_cons, List.length_nil, List.replicate_succ, List.replicate_zero, List.cons_append, List.nil_append, List.getElem?_cons_succ, List.getElem?_cons_zero, List.set_cons_succ, List.set_cons_zero, Nat.reduceAdd, Nat.reduceSub, Nat.zero_add, decide_true, decide_false, Bool.not_true, Bool.not_false, if_true, if_false, rEq, rNe, scal_ii, scal_ss, scal_bb, scal_is, scal_si, scal_ns, scal_ni, scal_in, scal_sn, scal_nn, rI, rI0, rU, rIxLH, rIxTH, rLenH, rLenTH, rSetL, rCatN, rTupOfN, rLstOfN, rSlLN, rSlTN, CDiv, CPow, CMul, CDivW, rNeNil, rLenO, rSplitN, rRepN, r_replC, rMulS, r_methK, rRepTN, r_cmK, rCmpO, Bool.false_xor, Bool.true_xor, r_starT, r_starL, r_cm, r_cval, selK_t, selK_f, rAppend, rIsK, reduceCtorEq, upd_same, at0, at1, at2, at3, at4, at5, at6, at7, at8, at9, at10, at11, at12, at13, ix3_0, ix3_1, ix3_2, V.int.injEq, V.bl.injEq, V.str.injEq, V.ref.injEq, Option.some.injEq, HO.lst.injEq, HO.tup.injEq, HO.ins.injEq, List.cons.injEq, and_true, true_and, exists_eq_left, exists_eq_left', exists_and_left, exists_eq', exists_eq, and_assoc, N_law_good_name]
    refine ⟨fits (by decide), fun p6 H2 n6 => ?_⟩
    have hD2 := n6.old hD
    have h6 := n6.at_
    try simp only [cxK, r_lam, r_dnew, r_err, r_base, r_serr, r_var, r_c, r_seq, r_next, r_break, r_cont, r_drop, r_ret, r_retN, r_if, r_ife, r_asg, r_name, r_op, r_un, r_nil, r_cons, r_lst2, r_tup2, r_lc, r_for, r_ilist, r_itup, r_istr, r_irng1, r_irng2, r_ienum, r_ienumS, wipe, r_cb, r_test, r_b, r_not, r_notV, r_andV, r_orV, r_isN, r_notN, r_m1, r_m0, r_fld, sFld, putF, r_par, r_sub, r_gtup, r_gnil, r_gcons, r_sl, r_nopart, r_part, r_bm, r_bm0, r_chain, r_call, r_callK, r_meth, r_prop, r_make, r_and, r_or, andT_t, andT_f, orT_t, orT_f, ifK_t, ifK_f, ifE_t, ifE_f, andK_t, andK_f, orK_t, orK_f, L2.start, List.map_cons, List.map_nil, List.length_cons, List.length_nil, List.replicate_succ, List.replicate_zero, List.cons_append, List.nil_append, List.getElem?_cons_succ, List.getElem?_cons_zero, List.set_cons_succ, List.set_cons_zero, Nat.reduceAdd, Nat.reduceSub, Nat.zero_add, decide_true, decide_false, Bool.not_true, Bool.not_false, if_true, if_false, rEq, rNe, scal_ii, scal_ss, scal_bb, scal_is, scal_si, scal_ns, scal_ni, scal_in, scal_sn, scal_nn, rI, rI0, rU, rIxLH, rIxTH, rLenH, rLenTH, rSetL, rCatN, rTupOfN, rLstOfN, rSlLN, rSlTN, CDiv, CPow, CMul, CDivW, rNeNil, rLenO, rSplitN, rRepN, r_replC, rMulS, r_methK, rRepTN, r_cmK, rCmpO, Bool.false_xor, Bool.true_xor, r_starT, r_starL, r_cm, r_cval, selK_t, selK_f, rAppend, rIsK, reduceCtorEq, upd_same, at0, at1, at2, at3, at4, at5, at6, at7, at8, at9, at10, at11, at12, at13, ix3_0, ix3_1, ix3_2, V.int.injEq, V.bl.injEq, V.str.injEq, V.ref.injEq, Option.some.injEq, HO.lst.injEq, HO.tup.injEq, HO.ins.injEq, List.cons.injEq, and_true, true_and, exists_eq_left, exists_eq_left', exists_and_left, exists_eq', exists_eq, and_assoc, N_law_good_name, hD2, h6]
    have few : acc.length ≤ 3 := by
      rw [ea2, List.length_map]
      exact Nat.le_trans (List.length_filter_le _ _) (show (kinds3 b0 b1 b2).length ≤ 3 from Nat.le_refl 3)
    refine ⟨fits (by simp; omega), fun p7 H3 n7 => ⟨_, n7.at_, V.str nm, ?_, q H3 (same_trans s5 (same_trans sm (same_trans n6.same n7.same)))⟩⟩
    rw [← ea2] at sel
    exact atI_nat (j := 0) sel
theorem pe_inv {X : Cx} {d : DX} {k : Nat} {params : Arguments} {body : Expr} {scope : Scope} {t : XK → TE} {p lpos pos : Pos} (T : Tx fa fn X.K X.mg) (B : Tb lm X.K X.mg X.base) (dn : (lm.map fun d => tabX X.K d).Nodup) (hd : d ∈ lm)
    (hcode : X.env.code = .ref (codeX X.K d)) (hqual : X.env.qual = d.qual ++ ".<locals>.") (hg : Gl X "_law_invalid") (hr : Room (k + 2) X.A) (L : LamX.LamS X.env.scope scope) (hdef : defaultsOf params X.env = ([], []))
    (hbind : ∀ (q : Str) (cl : List (Str × Addr)) (pm cv ctv : Value), bindArgs (PySem.W.kla_fn "<lambda>" q params body scope cl pm cv ctv) ⟨[], []⟩ = pure [])
    (hbody : ∀ (A : Around) (outer : List Env) (s : Shared) (H : Hp) (E : XK) (f c : Addr), Room k (A.deeper (LamX.lamEnv X scope s.heap.objs.size f c)) → PE (LamX.lamCx X A outer s H E scope f c) body (t E)) :
    PE X (.Call (.Name "_law_invalid" p) [.Lambda params body scope lpos] [] pos) (LamX.tLam (TL lm X.K) (TTinv X.K) t) := by
  obtain ⟨fd, F⟩ := (F_law_invalid T)
  obtain ⟨oc, od, dV, kV, doc, pm, an, cdv, ct, osl, e, lk, hcd, _, _⟩ := F.ex
  have hb := b_law_invalid F
  subst e
  have hm : (tabX X.K d, X.env.qual ++ "<lambda>") ∈ TL lm X.K := by rw [hqual]; exact TL_mem hd
  have hu : ∀ z ∈ TL lm X.K, z.1 = tabX X.K d → z.2 = X.env.qual ++ "<lambda>" := by rw [hqual]; exact TL_u dn hd
  exact LamX.pe_lamcall (k := k) (Ng := N_law_invalid) (a := "_law_call_so") hg (g_law_invalid T) (k_law_invalid T) lk hcd hb sc_law_invalid rfl (Or.inl rfl) (inv_gives T) (B d hd) hcode hm hu hr L hdef hbind hbody
theorem pe_invD {X : Cx} {d : DX} {k : Nat} {params : Arguments} {body : Expr} {scope : Scope} {t : XK → TE} {p lpos pos cp : Pos} {i : Int} {cj : Nat} {y : Str} (T : Tx fa fn X.K X.mg) (B : Tb lm X.K X.mg X.base) (dn : (lm.map fun d => tabX X.K d).Nodup) (hd : d ∈ lm)
    (hcode : X.env.code = .ref (codeX X.K d)) (hqual : X.env.qual = d.qual ++ ".<locals>.") (hg : Gl X "_law_invalid") (hr : Room (k + 2) X.A) (L : FLd.LamD X.N X.env.scope scope) (hdef : defaultsOf params X.env = ([eval (.Constant (.int i) cj cp) X.env], []))
    (hbind : FLd.BindD params body scope y) (hloc : scope.names.lookup y = some .local)
    (hbody : ∀ (A : Around) (outer : List Env) (s : Shared) (H : Hp) (E : XK) (f c : Addr), Room k (A.deeper (LamX.lamEnv X scope s.heap.objs.size f c)) → PE (LamX.lamCx X A outer s H E scope f c) body (t E)) :
    PE X (.Call (.Name "_law_invalid" p) [.Lambda params body scope lpos] [] pos) (LamX.tLam (TL lm X.K) (TTinv X.K) t) := by
  obtain ⟨fd, F⟩ := (F_law_invalid T)
  obtain ⟨oc, od, dV, kV, doc, pm, an, cdv, ct, osl, e, lk, hcd, _, _⟩ := F.ex
  have hb := b_law_invalid F
  subst e
  have hm : (tabX X.K d, X.env.qual ++ "<lambda>") ∈ TL lm X.K := by rw [hqual]; exact TL_mem hd
  have hu : ∀ z ∈ TL lm X.K, z.1 = tabX X.K d → z.2 = X.env.qual ++ "<lambda>" := by rw [hqual]; exact TL_u dn hd
  exact FLd.pe_lamcallD (k := k) (Ng := N_law_invalid) (a := "_law_call_so") hg (g_law_invalid T) (k_law_invalid T) lk hcd hb sc_law_invalid rfl (Or.inl rfl) (inv_gives T) (B d hd) hcode hm hu hr L hdef hbind hloc hbody
/-- the call goes well; it ends with one of the three errors -/
def okK (Q : VK) : VK := fun _ H' => Q (.str "") H'
def errK (K : PySem.W.Frag) (Q : VK) : XK := fun cls d H' => ∃ (C dd : Addr) (nm : Str) (fs : List (Str × V)), cls = .ref C ∧ (C, nm) ∈ badW K ∧ d = some dd ∧ H' dd = some (.xd fs) ∧ ∀ H2, Same H' H2 → Q (.str nm) H2
theorem TTinv.intro {K : PySem.W.Frag} {tl : XK → Hp → VK → Prop} {H : Hp} {Q : VK} (h : tl (errK K Q) H (okK Q)) : TTinv K tl H Q := h
theorem errK.name {K : PySem.W.Frag} {Q : VK} {d : Addr} {fs : List (Str × V)} {H : Hp} (hd : H d = some (.xd fs)) (h : ∀ H2, Same H H2 → Q (.str "name") H2) : errK K Q (.ref (ga K "BadName")) (some d) H := ⟨_, d, "name", fs, rfl, by simp [badW], rfl, hd, h⟩
theorem errK.path {K : PySem.W.Frag} {Q : VK} {d : Addr} {fs : List (Str × V)} {H : Hp} (hd : H d = some (.xd fs)) (h : ∀ H2, Same H H2 → Q (.str "path") H2) : errK K Q (.ref (ga K "BadPath")) (some d) H := ⟨_, d, "path", fs, rfl, by simp [badW], rfl, hd, h⟩
theorem errK.number {K : PySem.W.Frag} {Q : VK} {d : Addr} {fs : List (Str × V)} {H : Hp} (hd : H d = some (.xd fs)) (h : ∀ H2, Same H H2 → Q (.str "number") H2) : errK K Q (.ref (ga K "BadNumber")) (some d) H := ⟨_, d, "number", fs, rfl, by simp [badW], rfl, hd, h⟩

end

section
variable {gd : Bool} {P : Program} {w : World} {K : PySem.W.Frag} {mg : Str → Option Value} {base : Heap}

/-- all but a and the tables stays -/
def OthN (a : Addr) (H H' : Hp) : Prop := ∀ b o, b ≠ a → H b = some o → (∀ ps, o ≠ .tbl ps) → H' b = some o
theorem OthN.of {a : Addr} {H H' : Hp} (h : Oth a H H') : OthN a H H' := fun b o n e _ => h b o n e
theorem OthN.trans {a : Addr} {H H1 H2 : Hp} (h : OthN a H H1) (k : OthN a H1 H2) : OthN a H H2 := fun b o n e t => k b o n (h b o n e t) t
theorem OthN.ext {a : Addr} {H H' : Hp} (h : LamX.ExtN H H') : OthN a H H' := fun b o _ e t => h b o e t
theorem OthN.same {a : Addr} {H H' : Hp} (h : Same H H') : OthN a H H' := fun b o _ e _ => h b o e
theorem OthN.fresh {a p : Addr} {o : HO} {H H1 : Hp} (h : OthN a H H1) (n : H p = none) : OthN a H (upd H1 p o) := fun b x k e t => by
  rw [upd_ne (fun z => by subst z; rw [n] at e; cases e)]
  exact h b x k e t
theorem tabs_oth {T : List (Addr × Str)} {H H' : Hp} {a : Addr} {xs : List V} (t : LamX.Tabs T H) (o : Oth a H H') (ha : H a = some (.lst xs)) : LamX.Tabs T H' := fun p hp => by
  obtain ⟨ps, h1, h2, h3⟩ := t p hp
  refine ⟨ps, o _ _ (fun e => ?_) h1, h2, fun pos cv hc => ?_⟩
  · rw [e, ha] at h1
    cases h1
  · obtain ⟨c, e1, e2⟩ := h3 pos cv hc
    refine ⟨c, e1, o _ _ (fun e => ?_) e2⟩
    rw [e, ha] at e2
    cases e2
theorem tabs_same {T : List (Addr × Str)} {H H' : Hp} (t : LamX.Tabs T H) (s : Same H H') : LamX.Tabs T H' := t.ext s
theorem tabs_upd {T : List (Addr × Str)} {H : Hp} {a : Addr} {xs : List V} {o : HO} (t : LamX.Tabs T H) (ha : H a = some (.lst xs)) : LamX.Tabs T (upd H a o) := tabs_oth t (fun b x n e => by rw [upd_ne n]; exact e) ha
theorem Src.othN {H H' : Hp} {a : Addr} {j : Int} (h : Src H a j) (s : LamX.ExtN H H') : Src H' a j := let ⟨c, d, e, z⟩ := h; ⟨c, d, s _ _ e nofun, z⟩
theorem ext_oth {a : Addr} {H H1 H2 : Hp} (n : H a = none) (s : LamX.ExtN H H1) (o : OthN a H1 H2) : LamX.ExtN H H2 := fun b x e t => o b x (fun z => by rw [z, n] at e; cases e) (s b x e t) t
theorem ext_trans {H H1 H2 : Hp} (s : LamX.ExtN H H1) (o : LamX.ExtN H1 H2) : LamX.ExtN H H2 := s.trans o
theorem ext_same {H H1 : Hp} (s : Same H H1) : LamX.ExtN H H1 := LamX.ExtN.of s
theorem sqL_ext {K : PySem.W.Frag} {H H' : Hp} {a : Addr} {xs : List V} (h : SqL K H a xs) (s : LamX.ExtN H H') : SqL K H' a xs := by
  rcases h with (h | ⟨so, h⟩) | h
  · exact .inl (.inl (s _ _ h nofun))
  · exact .inl (.inr ⟨so, s _ _ h nofun⟩)
  · exact .inr h
/-- a new object, the others but tables kept -/
theorem ext_none {H H' : Hp} {p : Addr} (s : LamX.ExtN H H') (n : H' p = none) (t : ∀ ps, H p ≠ some (.tbl ps)) : H p = none := by
  cases e : H p with
  | none => rfl
  | some o =>
    have z := s p o e fun ps h => t ps (by rw [e, h])
    rw [n] at z
    cases z

end

section
variable {gd : Bool} {P : Program} {w : World} {K : PySem.W.Frag} {mg : Str → Option Value} {base : Heap}

/-- the names to which parts lead -/
def stepNm (f : Option (List Str)) (p : Str) : Option (List Str) := match f with
  | none => none
  | some ns => if p = ".." then some (ns.take (ns.length - 1)) else if isNm p = true then some (ns ++ [p]) else if p = "" ∨ p = "." then some ns else none
def namesOf (b : List Str) (ps : List Str) : Option (List Str) := ps.foldl stepNm (some b)
theorem step_none : ∀ ps : List Str, ps.foldl stepNm none = none
  | [] => rfl
  | p :: ps => step_none ps
theorem namesOf_take {b ps : List Str} {i : Nat} {p : Str} (h : ps[i]? = some p) : namesOf b (ps.take (i + 1)) = stepNm (namesOf b (ps.take i)) p := by
  unfold namesOf
  rw [List.take_add_one, h]
  show List.foldl stepNm (some b) (ps.take i ++ [p]) = _
  rw [List.foldl_append]
  rfl
theorem namesOf_stop {b ps : List Str} {i : Nat} (h : namesOf b (ps.take i) = none) : namesOf b ps = none := by
  have e : namesOf b ps = (ps.drop i).foldl stepNm (namesOf b (ps.take i)) := by
    unfold namesOf
    rw [← List.foldl_append, List.take_append_drop]
  rw [e, h]
  exact step_none _
theorem in2 (p : Str) : inV (V.str p) [V.str (PySem.Str.ofString ""), V.str (PySem.Str.ofString ".")] = decide (p = "" ∨ p = ".") := by
  show ((PySem.Str.ofString "" == p) || ((PySem.Str.ofString "." == p) || false)) = _
  rw [Bool.or_false]
  by_cases d1 : p = ""
  · simp [d1]
  · by_cases d2 : p = "."
    · simp [d2]
    · rw [beq_eq_false_iff_ne.mpr fun e => d1 e.symm, beq_eq_false_iff_ne.mpr fun e => d2 e.symm]
      simp [d1, d2]
def AftPv (H : Hp) (b ps : List Str) (t : Addr) (z : Str) (i : Nat) (σ : L2.St) (H' : Hp) : Prop := ∃ (f : Addr) (ns : List Str) (v3 : Option V), σ = [some (.ref t), some (.str z), some (.ref f), v3] ∧ namesOf b (ps.take i) = some ns ∧ H' f = some (.tup (ns.map V.str)) ∧ Same H H' ∧ ns.length ≤ b.length + i ∧ ∀ x ∈ ns, isNm x = true
def slash : Str := ⟨#[47]⟩
theorem slash_eq : PySem.Str.ofString "/" = slash := by decide +kernel
def spAfterN : Sp := fun vs H Q _ => ∃ (t : Addr) (z : Str) (b : List Str), vs = [.ref t, .str z] ∧ H t = some (.tup (b.map V.str)) ∧ b.length ≤ 1000 ∧ (∀ x ∈ b, isNm x = true) ∧ z.length ≤ 100000 ∧
  (∀ H', Same H H' → namesOf b (Txt.split z slash) = none → Q .non H') ∧ ∀ f ns H', Same H H' → namesOf b (Txt.split z slash) = some ns → H' f = some (.tup (ns.map V.str)) → (∀ x ∈ ns, isNm x = true) → Q (.ref f) H'
theorem ok_names_after (T : Tx fa fn K mg) : Fn gd P w K mg base 2 (aG "names_after" K) [] spAfterN := by
  obtain ⟨fd, F⟩ := F_names_after T
  refine fn_all F sc_names_after (fun vs H Q E h => ?_) (b_names_after F) (fun cdv A outer s H vs Q E hr h => ⟨_, (pss_cons (ps_set (i := 2) sc_names_after.nd rfl (Or.inl rfl) (pv 0))
 (pss_cons (ps_for passO rfl (pi_list (pe_splitN (pv 1) pe_str)) (pg_name (i := 3) sc_names_after.nd rfl (Or.inl rfl))
 (pss_one (ps_if (pt_cmpR op_eq (pv 3) pe_str (nomark _))
 (pss_one (ps_set (i := 2) sc_names_after.nd rfl (Or.inl rfl) (pe_slice sl_tup_n (pv 2) po_none (po_some (pe_un un_neg pe_int)))))
 (pss_one (ps_if (pt_val (pe_fn (ok_is_name T) (hr.mono (by decide)) rfl (g_is_name T) (k_is_name T) passD (pa_cons (pv 3) pa_nil)))
 (pss_one (ps_set (i := 2) sc_names_after.nd rfl (Or.inl rfl) (pe_tup (pa_starT (pv 2) (pa_cons (pv 3) pa_nil)))))
 (pss_one (ps_if (pt_cmpR op_notIn_seq (pv 3) (pe_tup (pa_cons pe_str (pa_cons pe_str pa_nil))) rfl)
 (pss_one (ps_ret pe_non))
 pss_nil)))))))
 (pss_one (ps_ret (pv 2))))), ?_⟩)
  · first | (obtain ⟨_, e, _⟩ := h; subst e; rfl) | (obtain ⟨_, _, e, _⟩ := h; subst e; rfl) | (obtain ⟨_, _, _, e, _⟩ := h; subst e; rfl) | (obtain ⟨_, _, _, _, e, _⟩ := h; subst e; rfl) | (obtain ⟨_, _, _, _, _, e, _⟩ := h; subst e; rfl) | (obtain ⟨_, _, _, _, _, _, e, _⟩ := h; subst e; rfl) | (obtain ⟨_, _, _, _, _, _, _, e, _⟩ := h; subst e; rfl) | (obtain ⟨_, _, _, _, _, _, _, _, e, _⟩ := h; subst e; rfl) | (obtain ⟨_, _, _, _, _, _, _, _, _, e, _⟩ := h; subst e; rfl) | (obtain ⟨_, _, _, _, _, _, _, _, _, _, e, _⟩ := h; subst e; rfl) | (obtain ⟨_, _, _, _, _, _, _, _, _, _, _, e, _⟩ := h; subst e; rfl)
  obtain ⟨t, z, b, rfl, ht, hb, hbn, hz, q0, q1⟩ := h
  try simp only [cxK, r_lam, r_dnew, r_err, r_base, r_serr, r_var, r_c, r_seq, r_next, r_break, r_cont, r_drop, r_ret, r_retN, r_if, r_ife, r_asg, r_name, r_op, r_un, r_nil, r_cons, r_lst2, r_tup2, r_lc, r_for, r_ilist, r_itup, r_istr, r_irng1, r_irng2, r_ienum, r_ienumS, wipe, r_cb, r_test, r_b, r_not, r_notV, r_andV, r_orV, r_isN, r_notN, r_m1, r_m0, r_fld, sFld, putF, r_par, r_sub, r_gtup, r_gnil, r_gcons, r_sl, r_nopart, r_part, r_bm, r_bm0, r_chain, r_call, r_callK, r_meth, r_prop, r_make, r_and, r_or, andT_t, andT_f, orT_t, orT_f, ifK_t, ifK_f, ifE_t, ifE_f, andK_t, andK_f, orK_t, orK_f, L2.start, List.map_cons, List.map_nil, List.length_cons, List.length_nil, List.replicate_succ, List.replicate_zero, List.cons_append, List.nil_append, List.getElem?_cons_succ, List.getElem?_cons_zero, List.set_cons_succ, List.set_cons_zero, Nat.reduceAdd, Nat.reduceSub, Nat.zero_add, decide_true, decide_false, Bool.not_true, Bool.not_false, if_true, if_false, rEq, rNe, scal_ii, scal_ss, scal_bb, scal_is, scal_si, scal_ns, scal_ni, scal_in, scal_sn, scal_nn, rI, rI0, rU, rIxLH, rIxTH, rLenH, rLenTH, rSetL, rCatN, rTupOfN, rLstOfN, rSlLN, rSlTN, CDiv, CPow, CMul, CDivW, rNeNil, rLenO, rSplitN, rRepN, r_replC, rMulS, r_methK, rRepTN, r_cmK, rCmpO, Bool.false_xor, Bool.true_xor, r_starT, r_starL, r_cm, r_cval, selK_t, selK_f, rAppend, rIsK, reduceCtorEq, upd_same, at0, at1, at2, at3, at4, at5, at6, at7, at8, at9, at10, at11, at12, at13, ix3_0, ix3_1, ix3_2, V.int.injEq, V.bl.injEq, V.str.injEq, V.ref.injEq, Option.some.injEq, HO.lst.injEq, HO.tup.injEq, HO.ins.injEq, List.cons.injEq, and_true, true_and, exists_eq_left, exists_eq_left', exists_and_left, exists_eq', exists_eq, and_assoc, N_names_after]
  refine ⟨by rw [slash_eq]; rfl, fits (by omega), fun l H1 n1 => ?_⟩
  rw [slash_eq] at n1
  have hl1 := n1.at_
  obtain ⟨ps, eps⟩ : ∃ ps, ps = Txt.split z slash := ⟨_, rfl⟩
  rw [← eps] at hl1 q0 q1
  have hps : ps.length ≤ z.length + 2 := by rw [eps]; exact split_le _ _
  have hpz : ∀ p ∈ ps, p.length ≤ z.length := fun p hp => by rw [eps] at hp; exact part_short hp
  try simp only [cxK, r_lam, r_dnew, r_err, r_base, r_serr, r_var, r_c, r_seq, r_next, r_break, r_cont, r_drop, r_ret, r_retN, r_if, r_ife, r_asg, r_name, r_op, r_un, r_nil, r_cons, r_lst2, r_tup2, r_lc, r_for, r_ilist, r_itup, r_istr, r_irng1, r_irng2, r_ienum, r_ienumS, wipe, r_cb, r_test, r_b, r_not, r_notV, r_andV, r_orV, r_isN, r_notN, r_m1, r_m0, r_fld, sFld, putF, r_par, r_sub, r_gtup, r_gnil, r_gcons, r_sl, r_nopart, r_part, r_bm, r_bm0, r_chain, r_call, r_callK, r_meth, r_prop, r_make, r_and, r_or, andT_t, andT_f, orT_t, orT_f, ifK_t, ifK_f, ifE_t, ifE_f, andK_t, andK_f, orK_t, orK_f, L2.start, List.map_cons, List.map_nil, List.length_cons, List.length_nil, List.replicate_succ, List.replicate_zero, List.cons_append, List.nil_append, List.getElem?_cons_succ, List.getElem?_cons_zero, List.set_cons_succ, List.set_cons_zero, Nat.reduceAdd, Nat.reduceSub, Nat.zero_add, decide_true, decide_false, Bool.not_true, Bool.not_false, if_true, if_false, rEq, rNe, scal_ii, scal_ss, scal_bb, scal_is, scal_si, scal_ns, scal_ni, scal_in, scal_sn, scal_nn, rI, rI0, rU, rIxLH, rIxTH, rLenH, rLenTH, rSetL, rCatN, rTupOfN, rLstOfN, rSlLN, rSlTN, CDiv, CPow, CMul, CDivW, rNeNil, rLenO, rSplitN, rRepN, r_replC, rMulS, r_methK, rRepTN, r_cmK, rCmpO, Bool.false_xor, Bool.true_xor, r_starT, r_starL, r_cm, r_cval, selK_t, selK_f, rAppend, rIsK, reduceCtorEq, upd_same, at0, at1, at2, at3, at4, at5, at6, at7, at8, at9, at10, at11, at12, at13, ix3_0, ix3_1, ix3_2, V.int.injEq, V.bl.injEq, V.str.injEq, V.ref.injEq, Option.some.injEq, HO.lst.injEq, HO.tup.injEq, HO.ins.injEq, List.cons.injEq, and_true, true_and, exists_eq_left, exists_eq_left', exists_and_left, exists_eq', exists_eq, and_assoc, N_names_after]
  refine ⟨⟨_, SqL.of hl1⟩, ?_⟩
  refine forK_lst (xs := ps.map V.str) (AftPv H1 b ps t z) ⟨t, b, none, rfl, by simp [namesOf], n1.old ht, same_refl, by omega, hbn⟩ ?_ ?_ ?_
  · rintro i σ H2 hi ⟨f, ns, v3, rfl, e1, e2, sm, e3, e4⟩
    exact SqL.of (sm _ _ hl1)
  · rintro i x σ H2 hx ⟨f, ns, v3, rfl, e1, hf, sm, e3, e4⟩
    rw [List.getElem?_map] at hx
    obtain ⟨p, hp, rfl⟩ := Option.map_eq_some_iff.mp hx
    have hi : i < ps.length := idx_lt hp
    have pz := hpz p (List.mem_of_getElem? hp)
    have st := namesOf_take (b := b) hp
    rw [e1] at st
    by_cases c1 : p = ".."
    · try simp only [cxK, r_lam, r_dnew, r_err, r_base, r_serr, r_var, r_c, r_seq, r_next, r_break, r_cont, r_drop, r_ret, r_retN, r_if, r_ife, r_asg, r_name, r_op, r_un, r_nil, r_cons, r_lst2, r_tup2, r_lc, r_for, r_ilist, r_itup, r_istr, r_irng1, r_irng2, r_ienum, r_ienumS, wipe, r_cb, r_test, r_b, r_not, r_notV, r_andV, r_orV, r_isN, r_notN, r_m1, r_m0, r_fld, sFld, putF, r_par, r_sub, r_gtup, r_gnil, r_gcons, r_sl, r_nopart, r_part, r_bm, r_bm0, r_chain, r_call, r_callK, r_meth, r_prop, r_make, r_and, r_or, andT_t, andT_f, orT_t, orT_f, ifK_t, ifK_f, ifE_t, ifE_f, andK_t, andK_f, orK_t, orK_f, L2.start, List.map_cons, List.map_nil, List.length_cons, List.length_nil, List.replicate_succ, List.replicate_zero, List.cons_append, List.nil_append, List.getElem?_cons_succ, List.getElem?_cons_zero, List.set_cons_succ, List.set_cons_zero, Nat.reduceAdd, Nat.reduceSub, Nat.zero_add, decide_true, decide_false, Bool.not_true, Bool.not_false, if_true, if_false, rEq, rNe, scal_ii, scal_ss, scal_bb, scal_is, scal_si, scal_ns, scal_ni, scal_in, scal_sn, scal_nn, rI, rI0, rU, rIxLH, rIxTH, rLenH, rLenTH, rSetL, rCatN, rTupOfN, rLstOfN, rSlLN, rSlTN, CDiv, CPow, CMul, CDivW, rNeNil, rLenO, rSplitN, rRepN, r_replC, rMulS, r_methK, rRepTN, r_cmK, rCmpO, Bool.false_xor, Bool.true_xor, r_starT, r_starL, r_cm, r_cval, selK_t, selK_f, rAppend, rIsK, reduceCtorEq, upd_same, at0, at1, at2, at3, at4, at5, at6, at7, at8, at9, at10, at11, at12, at13, ix3_0, ix3_1, ix3_2, V.int.injEq, V.bl.injEq, V.str.injEq, V.ref.injEq, Option.some.injEq, HO.lst.injEq, HO.tup.injEq, HO.ins.injEq, List.cons.injEq, and_true, true_and, exists_eq_left, exists_eq_left', exists_and_left, exists_eq', exists_eq, and_assoc, N_names_after, c1, hf]
      intro f' H3 s3 h3
      rw [cut_front, List.length_map, ← List.map_take] at h3
      exact ⟨f', _, _, rfl, by rw [st]; exact if_pos c1, h3, same_trans sm s3, by rw [List.length_take]; omega, fun x hx => e4 x (List.mem_of_mem_take hx)⟩
    · try simp only [cxK, r_lam, r_dnew, r_err, r_base, r_serr, r_var, r_c, r_seq, r_next, r_break, r_cont, r_drop, r_ret, r_retN, r_if, r_ife, r_asg, r_name, r_op, r_un, r_nil, r_cons, r_lst2, r_tup2, r_lc, r_for, r_ilist, r_itup, r_istr, r_irng1, r_irng2, r_ienum, r_ienumS, wipe, r_cb, r_test, r_b, r_not, r_notV, r_andV, r_orV, r_isN, r_notN, r_m1, r_m0, r_fld, sFld, putF, r_par, r_sub, r_gtup, r_gnil, r_gcons, r_sl, r_nopart, r_part, r_bm, r_bm0, r_chain, r_call, r_callK, r_meth, r_prop, r_make, r_and, r_or, andT_t, andT_f, orT_t, orT_f, ifK_t, ifK_f, ifE_t, ifE_f, andK_t, andK_f, orK_t, orK_f, L2.start, List.map_cons, List.map_nil, List.length_cons, List.length_nil, List.replicate_succ, List.replicate_zero, List.cons_append, List.nil_append, List.getElem?_cons_succ, List.getElem?_cons_zero, List.set_cons_succ, List.set_cons_zero, Nat.reduceAdd, Nat.reduceSub, Nat.zero_add, decide_true, decide_false, Bool.not_true, Bool.not_false, if_true, if_false, rEq, rNe, scal_ii, scal_ss, scal_bb, scal_is, scal_si, scal_ns, scal_ni, scal_in, scal_sn, scal_nn, rI, rI0, rU, rIxLH, rIxTH, rLenH, rLenTH, rSetL, rCatN, rTupOfN, rLstOfN, rSlLN, rSlTN, CDiv, CPow, CMul, CDivW, rNeNil, rLenO, rSplitN, rRepN, r_replC, rMulS, r_methK, rRepTN, r_cmK, rCmpO, Bool.false_xor, Bool.true_xor, r_starT, r_starL, r_cm, r_cval, selK_t, selK_f, rAppend, rIsK, reduceCtorEq, upd_same, at0, at1, at2, at3, at4, at5, at6, at7, at8, at9, at10, at11, at12, at13, ix3_0, ix3_1, ix3_2, V.int.injEq, V.bl.injEq, V.str.injEq, V.ref.injEq, Option.some.injEq, HO.lst.injEq, HO.tup.injEq, HO.ins.injEq, List.cons.injEq, and_true, true_and, exists_eq_left, exists_eq_left', exists_and_left, exists_eq', exists_eq, and_assoc, N_names_after, c1, hf]
      refine ⟨p, rfl, by show p.length ≤ _; omega, fun H3 s3 => ?_⟩
      have hf3 := s3 _ _ hf
      cases c2 : isNm p with
      | true =>
        try simp only [cxK, r_lam, r_dnew, r_err, r_base, r_serr, r_var, r_c, r_seq, r_next, r_break, r_cont, r_drop, r_ret, r_retN, r_if, r_ife, r_asg, r_name, r_op, r_un, r_nil, r_cons, r_lst2, r_tup2, r_lc, r_for, r_ilist, r_itup, r_istr, r_irng1, r_irng2, r_ienum, r_ienumS, wipe, r_cb, r_test, r_b, r_not, r_notV, r_andV, r_orV, r_isN, r_notN, r_m1, r_m0, r_fld, sFld, putF, r_par, r_sub, r_gtup, r_gnil, r_gcons, r_sl, r_nopart, r_part, r_bm, r_bm0, r_chain, r_call, r_callK, r_meth, r_prop, r_make, r_and, r_or, andT_t, andT_f, orT_t, orT_f, ifK_t, ifK_f, ifE_t, ifE_f, andK_t, andK_f, orK_t, orK_f, L2.start, List.map_cons, List.map_nil, List.length_cons, List.length_nil, List.replicate_succ, List.replicate_zero, List.cons_append, List.nil_append, List.getElem?_cons_succ, List.getElem?_cons_zero, List.set_cons_succ, List.set_cons_zero, Nat.reduceAdd, Nat.reduceSub, Nat.zero_add, decide_true, decide_false, Bool.not_true, Bool.not_false, if_true, if_false, rEq, rNe, scal_ii, scal_ss, scal_bb, scal_is, scal_si, scal_ns, scal_ni, scal_in, scal_sn, scal_nn, rI, rI0, rU, rIxLH, rIxTH, rLenH, rLenTH, rSetL, rCatN, rTupOfN, rLstOfN, rSlLN, rSlTN, CDiv, CPow, CMul, CDivW, rNeNil, rLenO, rSplitN, rRepN, r_replC, rMulS, r_methK, rRepTN, r_cmK, rCmpO, Bool.false_xor, Bool.true_xor, r_starT, r_starL, r_cm, r_cval, selK_t, selK_f, rAppend, rIsK, reduceCtorEq, upd_same, at0, at1, at2, at3, at4, at5, at6, at7, at8, at9, at10, at11, at12, at13, ix3_0, ix3_1, ix3_2, V.int.injEq, V.bl.injEq, V.str.injEq, V.ref.injEq, Option.some.injEq, HO.lst.injEq, HO.tup.injEq, HO.ins.injEq, List.cons.injEq, and_true, true_and, exists_eq_left, exists_eq_left', exists_and_left, exists_eq', exists_eq, and_assoc, N_names_after, hf3]
        refine ⟨fits (by simp; omega), fun f' H4 n4 => ?_⟩
        refine ⟨f', ns ++ [p], _, rfl, by rw [st]; show (if p = ".." then _ else if isNm p = true then _ else _) = _; rw [if_neg c1, if_pos c2], by rw [n4.at_]; simp, same_trans sm (same_trans s3 n4.same), by simp; omega, fun x hx => ?_⟩
        rcases List.mem_append.mp hx with h | h
        · exact e4 x h
        · simp at h
          subst h
          exact c2
      | false =>
        try simp only [cxK, r_lam, r_dnew, r_err, r_base, r_serr, r_var, r_c, r_seq, r_next, r_break, r_cont, r_drop, r_ret, r_retN, r_if, r_ife, r_asg, r_name, r_op, r_un, r_nil, r_cons, r_lst2, r_tup2, r_lc, r_for, r_ilist, r_itup, r_istr, r_irng1, r_irng2, r_ienum, r_ienumS, wipe, r_cb, r_test, r_b, r_not, r_notV, r_andV, r_orV, r_isN, r_notN, r_m1, r_m0, r_fld, sFld, putF, r_par, r_sub, r_gtup, r_gnil, r_gcons, r_sl, r_nopart, r_part, r_bm, r_bm0, r_chain, r_call, r_callK, r_meth, r_prop, r_make, r_and, r_or, andT_t, andT_f, orT_t, orT_f, ifK_t, ifK_f, ifE_t, ifE_f, andK_t, andK_f, orK_t, orK_f, L2.start, List.map_cons, List.map_nil, List.length_cons, List.length_nil, List.replicate_succ, List.replicate_zero, List.cons_append, List.nil_append, List.getElem?_cons_succ, List.getElem?_cons_zero, List.set_cons_succ, List.set_cons_zero, Nat.reduceAdd, Nat.reduceSub, Nat.zero_add, decide_true, decide_false, Bool.not_true, Bool.not_false, if_true, if_false, rEq, rNe, scal_ii, scal_ss, scal_bb, scal_is, scal_si, scal_ns, scal_ni, scal_in, scal_sn, scal_nn, rI, rI0, rU, rIxLH, rIxTH, rLenH, rLenTH, rSetL, rCatN, rTupOfN, rLstOfN, rSlLN, rSlTN, CDiv, CPow, CMul, CDivW, rNeNil, rLenO, rSplitN, rRepN, r_replC, rMulS, r_methK, rRepTN, r_cmK, rCmpO, Bool.false_xor, Bool.true_xor, r_starT, r_starL, r_cm, r_cval, selK_t, selK_f, rAppend, rIsK, reduceCtorEq, upd_same, at0, at1, at2, at3, at4, at5, at6, at7, at8, at9, at10, at11, at12, at13, ix3_0, ix3_1, ix3_2, V.int.injEq, V.bl.injEq, V.str.injEq, V.ref.injEq, Option.some.injEq, HO.lst.injEq, HO.tup.injEq, HO.ins.injEq, List.cons.injEq, and_true, true_and, exists_eq_left, exists_eq_left', exists_and_left, exists_eq', exists_eq, and_assoc, N_names_after]
        refine ⟨fits (by decide), fun p4 H4 n4 => ?_⟩
        refine ⟨p4, _, rfl, Or.inr (SqT.of n4.at_), rfl, rfl, ?_⟩
        have hin : inV (V.str p) [V.str (PySem.Str.ofString ""), V.str (PySem.Str.ofString ".")] = decide (p = "" ∨ p = ".") := by
          show ((PySem.Str.ofString "" == p) || ((PySem.Str.ofString "." == p) || false)) = _
          rw [Bool.or_false]
          by_cases d1 : p = ""
          · simp [d1]
          · by_cases d2 : p = "."
            · simp [d2]
            · have f1 : (PySem.Str.ofString "" == p) = false := by
                rw [beq_eq_false_iff_ne]
                exact fun e => d1 e.symm
              have f2 : (PySem.Str.ofString "." == p) = false := by
                rw [beq_eq_false_iff_ne]
                exact fun e => d2 e.symm
              rw [f1, f2]
              simp [d1, d2]
        rw [if_pos rfl, hin]
        have st2 : stepNm (some ns) p = if p = "" ∨ p = "." then some ns else none := by
          show (if p = ".." then _ else if isNm p = true then _ else _) = _
          rw [if_neg c1, if_neg (by rw [c2]; exact Bool.false_ne_true)]
        by_cases c3 : p = "" ∨ p = "."
        · rw [decide_eq_true c3]
          try simp only [cxK, r_lam, r_dnew, r_err, r_base, r_serr, r_var, r_c, r_seq, r_next, r_break, r_cont, r_drop, r_ret, r_retN, r_if, r_ife, r_asg, r_name, r_op, r_un, r_nil, r_cons, r_lst2, r_tup2, r_lc, r_for, r_ilist, r_itup, r_istr, r_irng1, r_irng2, r_ienum, r_ienumS, wipe, r_cb, r_test, r_b, r_not, r_notV, r_andV, r_orV, r_isN, r_notN, r_m1, r_m0, r_fld, sFld, putF, r_par, r_sub, r_gtup, r_gnil, r_gcons, r_sl, r_nopart, r_part, r_bm, r_bm0, r_chain, r_call, r_callK, r_meth, r_prop, r_make, r_and, r_or, andT_t, andT_f, orT_t, orT_f, ifK_t, ifK_f, ifE_t, ifE_f, andK_t, andK_f, orK_t, orK_f, L2.start, List.map_cons, List.map_nil, List.length_cons, List.length_nil, List.replicate_succ, List.replicate_zero, List.cons_append, List.nil_append, List.getElem?_cons_succ, List.getElem?_cons_zero, List.set_cons_succ, List.set_cons_zero, Nat.reduceAdd, Nat.reduceSub, Nat.zero_add, decide_true, decide_false, Bool.not_true, Bool.not_false, if_true, if_false, rEq, rNe, scal_ii, scal_ss, scal_bb, scal_is, scal_si, scal_ns, scal_ni, scal_in, scal_sn, scal_nn, rI, rI0, rU, rIxLH, rIxTH, rLenH, rLenTH, rSetL, rCatN, rTupOfN, rLstOfN, rSlLN, rSlTN, CDiv, CPow, CMul, CDivW, rNeNil, rLenO, rSplitN, rRepN, r_replC, rMulS, r_methK, rRepTN, r_cmK, rCmpO, Bool.false_xor, Bool.true_xor, r_starT, r_starL, r_cm, r_cval, selK_t, selK_f, rAppend, rIsK, reduceCtorEq, upd_same, at0, at1, at2, at3, at4, at5, at6, at7, at8, at9, at10, at11, at12, at13, ix3_0, ix3_1, ix3_2, V.int.injEq, V.bl.injEq, V.str.injEq, V.ref.injEq, Option.some.injEq, HO.lst.injEq, HO.tup.injEq, HO.ins.injEq, List.cons.injEq, and_true, true_and, exists_eq_left, exists_eq_left', exists_and_left, exists_eq', exists_eq, and_assoc, N_names_after]
          exact ⟨f, ns, _, rfl, by rw [st, st2, if_pos c3], n4.old hf3, same_trans sm (same_trans s3 n4.same), by omega, e4⟩
        · rw [decide_eq_false c3]
          try simp only [cxK, r_lam, r_dnew, r_err, r_base, r_serr, r_var, r_c, r_seq, r_next, r_break, r_cont, r_drop, r_ret, r_retN, r_if, r_ife, r_asg, r_name, r_op, r_un, r_nil, r_cons, r_lst2, r_tup2, r_lc, r_for, r_ilist, r_itup, r_istr, r_irng1, r_irng2, r_ienum, r_ienumS, wipe, r_cb, r_test, r_b, r_not, r_notV, r_andV, r_orV, r_isN, r_notN, r_m1, r_m0, r_fld, sFld, putF, r_par, r_sub, r_gtup, r_gnil, r_gcons, r_sl, r_nopart, r_part, r_bm, r_bm0, r_chain, r_call, r_callK, r_meth, r_prop, r_make, r_and, r_or, andT_t, andT_f, orT_t, orT_f, ifK_t, ifK_f, ifE_t, ifE_f, andK_t, andK_f, orK_t, orK_f, L2.start, List.map_cons, List.map_nil, List.length_cons, List.length_nil, List.replicate_succ, List.replicate_zero, List.cons_append, List.nil_append, List.getElem?_cons_succ, List.getElem?_cons_zero, List.set_cons_succ, List.set_cons_zero, Nat.reduceAdd, Nat.reduceSub, Nat.zero_add, decide_true, decide_false, Bool.not_true, Bool.not_false, if_true, if_false, rEq, rNe, scal_ii, scal_ss, scal_bb, scal_is, scal_si, scal_ns, scal_ni, scal_in, scal_sn, scal_nn, rI, rI0, rU, rIxLH, rIxTH, rLenH, rLenTH, rSetL, rCatN, rTupOfN, rLstOfN, rSlLN, rSlTN, CDiv, CPow, CMul, CDivW, rNeNil, rLenO, rSplitN, rRepN, r_replC, rMulS, r_methK, rRepTN, r_cmK, rCmpO, Bool.false_xor, Bool.true_xor, r_starT, r_starL, r_cm, r_cval, selK_t, selK_f, rAppend, rIsK, reduceCtorEq, upd_same, at0, at1, at2, at3, at4, at5, at6, at7, at8, at9, at10, at11, at12, at13, ix3_0, ix3_1, ix3_2, V.int.injEq, V.bl.injEq, V.str.injEq, V.ref.injEq, Option.some.injEq, HO.lst.injEq, HO.tup.injEq, HO.ins.injEq, List.cons.injEq, and_true, true_and, exists_eq_left, exists_eq_left', exists_and_left, exists_eq', exists_eq, and_assoc, N_names_after]
          exact q0 H4 (same_trans n1.same (same_trans sm (same_trans s3 n4.same))) (namesOf_stop (i := i + 1) (by rw [st, st2, if_neg c3]))
  · rintro σ H2 ⟨f, ns, v3, rfl, e1, hf, sm, e3, e4⟩
    rw [List.length_map, List.take_length] at e1
    try simp only [cxK, r_lam, r_dnew, r_err, r_base, r_serr, r_var, r_c, r_seq, r_next, r_break, r_cont, r_drop, r_ret, r_retN, r_if, r_ife, r_asg, r_name, r_op, r_un, r_nil, r_cons, r_lst2, r_tup2, r_lc, r_for, r_ilist, r_itup, r_istr, r_irng1, r_irng2, r_ienum, r_ienumS, wipe, r_cb, r_test, r_b, r_not, r_notV, r_andV, r_orV, r_isN, r_notN, r_m1, r_m0, r_fld, sFld, putF, r_par, r_sub, r_gtup, r_gnil, r_gcons, r_sl, r_nopart, r_part, r_bm, r_bm0, r_chain, r_call, r_callK, r_meth, r_prop, r_make, r_and, r_or, andT_t, andT_f, orT_t, orT_f, ifK_t, ifK_f, ifE_t, ifE_f, andK_t, andK_f, orK_t, orK_f, L2.start, List.map_cons, List.map_nil, List.length_cons, List.length_nil, List.replicate_succ, List.replicate_zero, List.cons_append, List.nil_append, List.getElem?_cons_succ, List.getElem?_cons_zero, List.set_cons_succ, List.set_cons_zero, Nat.reduceAdd, Nat.reduceSub, Nat.zero_add, decide_true, decide_false, Bool.not_true, Bool.not_false, if_true, if_false, rEq, rNe, scal_ii, scal_ss, scal_bb, scal_is, scal_si, scal_ns, scal_ni, scal_in, scal_sn, scal_nn, rI, rI0, rU, rIxLH, rIxTH, rLenH, rLenTH, rSetL, rCatN, rTupOfN, rLstOfN, rSlLN, rSlTN, CDiv, CPow, CMul, CDivW, rNeNil, rLenO, rSplitN, rRepN, r_replC, rMulS, r_methK, rRepTN, r_cmK, rCmpO, Bool.false_xor, Bool.true_xor, r_starT, r_starL, r_cm, r_cval, selK_t, selK_f, rAppend, rIsK, reduceCtorEq, upd_same, at0, at1, at2, at3, at4, at5, at6, at7, at8, at9, at10, at11, at12, at13, ix3_0, ix3_1, ix3_2, V.int.injEq, V.bl.injEq, V.str.injEq, V.ref.injEq, Option.some.injEq, HO.lst.injEq, HO.tup.injEq, HO.ins.injEq, List.cons.injEq, and_true, true_and, exists_eq_left, exists_eq_left', exists_and_left, exists_eq', exists_eq, and_assoc, N_names_after]
    exact q1 f ns H2 (same_trans n1.same sm) e1 hf e4
def namesIn (z : Str) : Option (List Str) := if 200 < z.length then none else if cutS z none (some 1) = "/" then (match namesOf [] (Txt.split z slash) with
  | some ns => if ns.length ≤ 12 then some ns else none
  | none => none) else none
/-- v as a path string: its names -/
def PStr (K : PySem.W.Frag) (H : Hp) (v : V) (r : Option (List Str)) : Prop := (∃ z, v = .str z ∧ z.length ≤ 16000000 ∧ r = namesIn z) ∨ ((Odd H v ∨ ∃ p dx fs, v = .ref p ∧ H p = some (.ins (ga K "Path") dx fs)) ∧ r = none)
theorem PStr.same {K : PySem.W.Frag} {H H' : Hp} {v : V} {r : Option (List Str)} (h : PStr K H v r) (s : Same H H') : PStr K H' v r := by
  rcases h with h | ⟨h | ⟨p, dx, fs, e, h⟩, e2⟩
  · exact .inl h
  · exact .inr ⟨.inl (h.same s), e2⟩
  · exact .inr ⟨.inr ⟨p, dx, fs, e, s _ _ h⟩, e2⟩
def spNamesIn (K : PySem.W.Frag) : Sp := fun vs H Q _ => ∃ (v : V) (r : Option (List Str)), vs = [v] ∧ PStr K H v r ∧ (∀ H', Same H H' → r = none → Q .non H') ∧ ∀ f ns H', Same H H' → r = some ns → H' f = some (.tup (ns.map V.str)) → (∀ x ∈ ns, isNm x = true) → ns.length ≤ 12 → Q (.ref f) H'
theorem ok_names_in (T : Tx fa fn K mg) : Fn gd P w K mg base 3 (aG "names_in" K) [] (spNamesIn K) := by
  obtain ⟨fd, F⟩ := F_names_in T
  refine fn_all F sc_names_in (fun vs H Q E h => ?_) (b_names_in F) (fun cdv A outer s H vs Q E hr h => ⟨_, (pss_cons (ps_if (PW.pt (pw_or (pt_not (pt_val (pe_callB call_isi (by rfl) (T.free (T.c.fact 9 (f := fFree "isinstance") rfl)) (by decide +kernel) (pa_cons (pv 0) (pa_cons (pe_bltn (v := .ty "str") (by rfl) (T.free (T.c.fact 10 (f := fFree "str") rfl)) (by decide +kernel) rfl) pa_nil))))) (pw_or (pt_cmpR op_gt (pe_callB call_len_str (by rfl) (T.free (T.c.fact 0 (f := fFree "len") rfl)) (by decide +kernel) (pa_cons (pv 0) pa_nil)) (pe_gint rfl (T.int (T.c.fact 32 (f := fInt "MAX_PATH" (200)) rfl))) (nomark _)) (pw_or1 (pt_cmpR op_ne (pe_slice sl_str (pv 0) po_none (po_some pe_int)) pe_str (nomark _))))))
 (pss_one (ps_ret pe_non))
 pss_nil)
 (pss_cons (ps_set (i := 1) sc_names_in.nd rfl (Or.inl rfl) (pe_fn (ok_names_after T) (hr.mono (by decide)) rfl (g_names_after T) (k_names_after T) passD (pa_cons (pe_tup pa_nil) (pa_cons (pv 0) pa_nil))))
 (pss_one (ps_ret (pe_ifExp (PW.pt (pw_and (pt_cmpR op_notN (pv 1) pe_non (nomark _)) (pw_and1 (pt_cmpR op_le (pe_callB call_len_th (by rfl) (T.free (T.c.fact 0 (f := fFree "len") rfl)) (by decide +kernel) (pa_cons (pv 1) pa_nil)) (pe_gint rfl (T.int (T.c.fact 11 (f := fInt "MAX_NAMES" (12)) rfl))) (nomark _))))) (pv 1) pe_non))))), ?_⟩)
  · first | (obtain ⟨_, e, _⟩ := h; subst e; rfl) | (obtain ⟨_, _, e, _⟩ := h; subst e; rfl) | (obtain ⟨_, _, _, e, _⟩ := h; subst e; rfl) | (obtain ⟨_, _, _, _, e, _⟩ := h; subst e; rfl) | (obtain ⟨_, _, _, _, _, e, _⟩ := h; subst e; rfl) | (obtain ⟨_, _, _, _, _, _, e, _⟩ := h; subst e; rfl) | (obtain ⟨_, _, _, _, _, _, _, e, _⟩ := h; subst e; rfl) | (obtain ⟨_, _, _, _, _, _, _, _, e, _⟩ := h; subst e; rfl) | (obtain ⟨_, _, _, _, _, _, _, _, _, e, _⟩ := h; subst e; rfl) | (obtain ⟨_, _, _, _, _, _, _, _, _, _, e, _⟩ := h; subst e; rfl) | (obtain ⟨_, _, _, _, _, _, _, _, _, _, _, e, _⟩ := h; subst e; rfl)
  obtain ⟨v, r, rfl, hp, q0, q1⟩ := h
  rcases hp with ⟨z, rfl, hz, er⟩ | ⟨ho | ⟨p, dx, fs, rfl, hp⟩, er⟩
  · try simp only [cxK, r_lam, r_dnew, r_err, r_base, r_serr, r_var, r_c, r_seq, r_next, r_break, r_cont, r_drop, r_ret, r_retN, r_if, r_ife, r_asg, r_name, r_op, r_un, r_nil, r_cons, r_lst2, r_tup2, r_lc, r_for, r_ilist, r_itup, r_istr, r_irng1, r_irng2, r_ienum, r_ienumS, wipe, r_cb, r_test, r_b, r_not, r_notV, r_andV, r_orV, r_isN, r_notN, r_m1, r_m0, r_fld, sFld, putF, r_par, r_sub, r_gtup, r_gnil, r_gcons, r_sl, r_nopart, r_part, r_bm, r_bm0, r_chain, r_call, r_callK, r_meth, r_prop, r_make, r_and, r_or, andT_t, andT_f, orT_t, orT_f, ifK_t, ifK_f, ifE_t, ifE_f, andK_t, andK_f, orK_t, orK_f, L2.start, List.map_cons, List.map_nil, List.length_cons, List.length_nil, List.replicate_succ, List.replicate_zero, List.cons_append, List.nil_append, List.getElem?_cons_succ, List.getElem?_cons_zero, List.set_cons_succ, List.set_cons_zero, Nat.reduceAdd, Nat.reduceSub, Nat.zero_add, decide_true, decide_false, Bool.not_true, Bool.not_false, if_true, if_false, rEq, rNe, scal_ii, scal_ss, scal_bb, scal_is, scal_si, scal_ns, scal_ni, scal_in, scal_sn, scal_nn, rI, rI0, rU, rIxLH, rIxTH, rLenH, rLenTH, rSetL, rCatN, rTupOfN, rLstOfN, rSlLN, rSlTN, CDiv, CPow, CMul, CDivW, rNeNil, rLenO, rSplitN, rRepN, r_replC, rMulS, r_methK, rRepTN, r_cmK, rCmpO, Bool.false_xor, Bool.true_xor, r_starT, r_starL, r_cm, r_cval, selK_t, selK_f, rAppend, rIsK, reduceCtorEq, upd_same, at0, at1, at2, at3, at4, at5, at6, at7, at8, at9, at10, at11, at12, at13, ix3_0, ix3_1, ix3_2, V.int.injEq, V.bl.injEq, V.str.injEq, V.ref.injEq, Option.some.injEq, HO.lst.injEq, HO.tup.injEq, HO.ins.injEq, List.cons.injEq, and_true, true_and, exists_eq_left, exists_eq_left', exists_and_left, exists_eq', exists_eq, and_assoc, N_names_in]
    refine isi_ty (r := true) (.str z) (by decide +kernel) ?_
    try simp only [cxK, r_lam, r_dnew, r_err, r_base, r_serr, r_var, r_c, r_seq, r_next, r_break, r_cont, r_drop, r_ret, r_retN, r_if, r_ife, r_asg, r_name, r_op, r_un, r_nil, r_cons, r_lst2, r_tup2, r_lc, r_for, r_ilist, r_itup, r_istr, r_irng1, r_irng2, r_ienum, r_ienumS, wipe, r_cb, r_test, r_b, r_not, r_notV, r_andV, r_orV, r_isN, r_notN, r_m1, r_m0, r_fld, sFld, putF, r_par, r_sub, r_gtup, r_gnil, r_gcons, r_sl, r_nopart, r_part, r_bm, r_bm0, r_chain, r_call, r_callK, r_meth, r_prop, r_make, r_and, r_or, andT_t, andT_f, orT_t, orT_f, ifK_t, ifK_f, ifE_t, ifE_f, andK_t, andK_f, orK_t, orK_f, L2.start, List.map_cons, List.map_nil, List.length_cons, List.length_nil, List.replicate_succ, List.replicate_zero, List.cons_append, List.nil_append, List.getElem?_cons_succ, List.getElem?_cons_zero, List.set_cons_succ, List.set_cons_zero, Nat.reduceAdd, Nat.reduceSub, Nat.zero_add, decide_true, decide_false, Bool.not_true, Bool.not_false, if_true, if_false, rEq, rNe, scal_ii, scal_ss, scal_bb, scal_is, scal_si, scal_ns, scal_ni, scal_in, scal_sn, scal_nn, rI, rI0, rU, rIxLH, rIxTH, rLenH, rLenTH, rSetL, rCatN, rTupOfN, rLstOfN, rSlLN, rSlTN, CDiv, CPow, CMul, CDivW, rNeNil, rLenO, rSplitN, rRepN, r_replC, rMulS, r_methK, rRepTN, r_cmK, rCmpO, Bool.false_xor, Bool.true_xor, r_starT, r_starL, r_cm, r_cval, selK_t, selK_f, rAppend, rIsK, reduceCtorEq, upd_same, at0, at1, at2, at3, at4, at5, at6, at7, at8, at9, at10, at11, at12, at13, ix3_0, ix3_1, ix3_2, V.int.injEq, V.bl.injEq, V.str.injEq, V.ref.injEq, Option.some.injEq, HO.lst.injEq, HO.tup.injEq, HO.ins.injEq, List.cons.injEq, and_true, true_and, exists_eq_left, exists_eq_left', exists_and_left, exists_eq', exists_eq, and_assoc, N_names_in]
    refine ⟨fits (by omega), ?_⟩
    by_cases h1 : (200 : Int) < z.length
    · try simp only [cxK, r_lam, r_dnew, r_err, r_base, r_serr, r_var, r_c, r_seq, r_next, r_break, r_cont, r_drop, r_ret, r_retN, r_if, r_ife, r_asg, r_name, r_op, r_un, r_nil, r_cons, r_lst2, r_tup2, r_lc, r_for, r_ilist, r_itup, r_istr, r_irng1, r_irng2, r_ienum, r_ienumS, wipe, r_cb, r_test, r_b, r_not, r_notV, r_andV, r_orV, r_isN, r_notN, r_m1, r_m0, r_fld, sFld, putF, r_par, r_sub, r_gtup, r_gnil, r_gcons, r_sl, r_nopart, r_part, r_bm, r_bm0, r_chain, r_call, r_callK, r_meth, r_prop, r_make, r_and, r_or, andT_t, andT_f, orT_t, orT_f, ifK_t, ifK_f, ifE_t, ifE_f, andK_t, andK_f, orK_t, orK_f, L2.start, List.map_cons, List.map_nil, List.length_cons, List.length_nil, List.replicate_succ, List.replicate_zero, List.cons_append, List.nil_append, List.getElem?_cons_succ, List.getElem?_cons_zero, List.set_cons_succ, List.set_cons_zero, Nat.reduceAdd, Nat.reduceSub, Nat.zero_add, decide_true, decide_false, Bool.not_true, Bool.not_false, if_true, if_false, rEq, rNe, scal_ii, scal_ss, scal_bb, scal_is, scal_si, scal_ns, scal_ni, scal_in, scal_sn, scal_nn, rI, rI0, rU, rIxLH, rIxTH, rLenH, rLenTH, rSetL, rCatN, rTupOfN, rLstOfN, rSlLN, rSlTN, CDiv, CPow, CMul, CDivW, rNeNil, rLenO, rSplitN, rRepN, r_replC, rMulS, r_methK, rRepTN, r_cmK, rCmpO, Bool.false_xor, Bool.true_xor, r_starT, r_starL, r_cm, r_cval, selK_t, selK_f, rAppend, rIsK, reduceCtorEq, upd_same, at0, at1, at2, at3, at4, at5, at6, at7, at8, at9, at10, at11, at12, at13, ix3_0, ix3_1, ix3_2, V.int.injEq, V.bl.injEq, V.str.injEq, V.ref.injEq, Option.some.injEq, HO.lst.injEq, HO.tup.injEq, HO.ins.injEq, List.cons.injEq, and_true, true_and, exists_eq_left, exists_eq_left', exists_and_left, exists_eq', exists_eq, and_assoc, N_names_in, h1]
      exact q0 H same_refl (by rw [er]; exact if_pos (by omega))
    · try simp only [cxK, r_lam, r_dnew, r_err, r_base, r_serr, r_var, r_c, r_seq, r_next, r_break, r_cont, r_drop, r_ret, r_retN, r_if, r_ife, r_asg, r_name, r_op, r_un, r_nil, r_cons, r_lst2, r_tup2, r_lc, r_for, r_ilist, r_itup, r_istr, r_irng1, r_irng2, r_ienum, r_ienumS, wipe, r_cb, r_test, r_b, r_not, r_notV, r_andV, r_orV, r_isN, r_notN, r_m1, r_m0, r_fld, sFld, putF, r_par, r_sub, r_gtup, r_gnil, r_gcons, r_sl, r_nopart, r_part, r_bm, r_bm0, r_chain, r_call, r_callK, r_meth, r_prop, r_make, r_and, r_or, andT_t, andT_f, orT_t, orT_f, ifK_t, ifK_f, ifE_t, ifE_f, andK_t, andK_f, orK_t, orK_f, L2.start, List.map_cons, List.map_nil, List.length_cons, List.length_nil, List.replicate_succ, List.replicate_zero, List.cons_append, List.nil_append, List.getElem?_cons_succ, List.getElem?_cons_zero, List.set_cons_succ, List.set_cons_zero, Nat.reduceAdd, Nat.reduceSub, Nat.zero_add, decide_true, decide_false, Bool.not_true, Bool.not_false, if_true, if_false, rEq, rNe, scal_ii, scal_ss, scal_bb, scal_is, scal_si, scal_ns, scal_ni, scal_in, scal_sn, scal_nn, rI, rI0, rU, rIxLH, rIxTH, rLenH, rLenTH, rSetL, rCatN, rTupOfN, rLstOfN, rSlLN, rSlTN, CDiv, CPow, CMul, CDivW, rNeNil, rLenO, rSplitN, rRepN, r_replC, rMulS, r_methK, rRepTN, r_cmK, rCmpO, Bool.false_xor, Bool.true_xor, r_starT, r_starL, r_cm, r_cval, selK_t, selK_f, rAppend, rIsK, reduceCtorEq, upd_same, at0, at1, at2, at3, at4, at5, at6, at7, at8, at9, at10, at11, at12, at13, ix3_0, ix3_1, ix3_2, V.int.injEq, V.bl.injEq, V.str.injEq, V.ref.injEq, Option.some.injEq, HO.lst.injEq, HO.tup.injEq, HO.ins.injEq, List.cons.injEq, and_true, true_and, exists_eq_left, exists_eq_left', exists_and_left, exists_eq', exists_eq, and_assoc, N_names_in, h1]
      refine ⟨z, rfl, fits (by omega), ?_⟩
      have er2 : r = if cutS z none (some 1) = "/" then (match namesOf [] (Txt.split z slash) with
        | some ns => if ns.length ≤ 12 then some ns else none
        | none => none) else none := by rw [er]; exact if_neg (by omega)
      by_cases h2 : cutS z none (some 1) = "/"
      · rw [if_pos h2] at er2
        try simp only [cxK, r_lam, r_dnew, r_err, r_base, r_serr, r_var, r_c, r_seq, r_next, r_break, r_cont, r_drop, r_ret, r_retN, r_if, r_ife, r_asg, r_name, r_op, r_un, r_nil, r_cons, r_lst2, r_tup2, r_lc, r_for, r_ilist, r_itup, r_istr, r_irng1, r_irng2, r_ienum, r_ienumS, wipe, r_cb, r_test, r_b, r_not, r_notV, r_andV, r_orV, r_isN, r_notN, r_m1, r_m0, r_fld, sFld, putF, r_par, r_sub, r_gtup, r_gnil, r_gcons, r_sl, r_nopart, r_part, r_bm, r_bm0, r_chain, r_call, r_callK, r_meth, r_prop, r_make, r_and, r_or, andT_t, andT_f, orT_t, orT_f, ifK_t, ifK_f, ifE_t, ifE_f, andK_t, andK_f, orK_t, orK_f, L2.start, List.map_cons, List.map_nil, List.length_cons, List.length_nil, List.replicate_succ, List.replicate_zero, List.cons_append, List.nil_append, List.getElem?_cons_succ, List.getElem?_cons_zero, List.set_cons_succ, List.set_cons_zero, Nat.reduceAdd, Nat.reduceSub, Nat.zero_add, decide_true, decide_false, Bool.not_true, Bool.not_false, if_true, if_false, rEq, rNe, scal_ii, scal_ss, scal_bb, scal_is, scal_si, scal_ns, scal_ni, scal_in, scal_sn, scal_nn, rI, rI0, rU, rIxLH, rIxTH, rLenH, rLenTH, rSetL, rCatN, rTupOfN, rLstOfN, rSlLN, rSlTN, CDiv, CPow, CMul, CDivW, rNeNil, rLenO, rSplitN, rRepN, r_replC, rMulS, r_methK, rRepTN, r_cmK, rCmpO, Bool.false_xor, Bool.true_xor, r_starT, r_starL, r_cm, r_cval, selK_t, selK_f, rAppend, rIsK, reduceCtorEq, upd_same, at0, at1, at2, at3, at4, at5, at6, at7, at8, at9, at10, at11, at12, at13, ix3_0, ix3_1, ix3_2, V.int.injEq, V.bl.injEq, V.str.injEq, V.ref.injEq, Option.some.injEq, HO.lst.injEq, HO.tup.injEq, HO.ins.injEq, List.cons.injEq, and_true, true_and, exists_eq_left, exists_eq_left', exists_and_left, exists_eq', exists_eq, and_assoc, N_names_in, h2]
        refine ⟨fits (by decide), fun t H1 n1 => ?_⟩
        refine ⟨t, z, [], rfl, n1.at_, by decide, nofun, by omega, fun H2 s2 hn => ?_, fun f ns H2 s2 hn hf hN => ?_⟩
        · try simp only [cxK, r_lam, r_dnew, r_err, r_base, r_serr, r_var, r_c, r_seq, r_next, r_break, r_cont, r_drop, r_ret, r_retN, r_if, r_ife, r_asg, r_name, r_op, r_un, r_nil, r_cons, r_lst2, r_tup2, r_lc, r_for, r_ilist, r_itup, r_istr, r_irng1, r_irng2, r_ienum, r_ienumS, wipe, r_cb, r_test, r_b, r_not, r_notV, r_andV, r_orV, r_isN, r_notN, r_m1, r_m0, r_fld, sFld, putF, r_par, r_sub, r_gtup, r_gnil, r_gcons, r_sl, r_nopart, r_part, r_bm, r_bm0, r_chain, r_call, r_callK, r_meth, r_prop, r_make, r_and, r_or, andT_t, andT_f, orT_t, orT_f, ifK_t, ifK_f, ifE_t, ifE_f, andK_t, andK_f, orK_t, orK_f, L2.start, List.map_cons, List.map_nil, List.length_cons, List.length_nil, List.replicate_succ, List.replicate_zero, List.cons_append, List.nil_append, List.getElem?_cons_succ, List.getElem?_cons_zero, List.set_cons_succ, List.set_cons_zero, Nat.reduceAdd, Nat.reduceSub, Nat.zero_add, decide_true, decide_false, Bool.not_true, Bool.not_false, if_true, if_false, rEq, rNe, scal_ii, scal_ss, scal_bb, scal_is, scal_si, scal_ns, scal_ni, scal_in, scal_sn, scal_nn, rI, rI0, rU, rIxLH, rIxTH, rLenH, rLenTH, rSetL, rCatN, rTupOfN, rLstOfN, rSlLN, rSlTN, CDiv, CPow, CMul, CDivW, rNeNil, rLenO, rSplitN, rRepN, r_replC, rMulS, r_methK, rRepTN, r_cmK, rCmpO, Bool.false_xor, Bool.true_xor, r_starT, r_starL, r_cm, r_cval, selK_t, selK_f, rAppend, rIsK, reduceCtorEq, upd_same, at0, at1, at2, at3, at4, at5, at6, at7, at8, at9, at10, at11, at12, at13, ix3_0, ix3_1, ix3_2, V.int.injEq, V.bl.injEq, V.str.injEq, V.ref.injEq, Option.some.injEq, HO.lst.injEq, HO.tup.injEq, HO.ins.injEq, List.cons.injEq, and_true, true_and, exists_eq_left, exists_eq_left', exists_and_left, exists_eq', exists_eq, and_assoc, N_names_in]
          rw [hn] at er2
          exact q0 H2 (same_trans n1.same s2) er2
        · rw [hn] at er2
          try simp only [cxK, r_lam, r_dnew, r_err, r_base, r_serr, r_var, r_c, r_seq, r_next, r_break, r_cont, r_drop, r_ret, r_retN, r_if, r_ife, r_asg, r_name, r_op, r_un, r_nil, r_cons, r_lst2, r_tup2, r_lc, r_for, r_ilist, r_itup, r_istr, r_irng1, r_irng2, r_ienum, r_ienumS, wipe, r_cb, r_test, r_b, r_not, r_notV, r_andV, r_orV, r_isN, r_notN, r_m1, r_m0, r_fld, sFld, putF, r_par, r_sub, r_gtup, r_gnil, r_gcons, r_sl, r_nopart, r_part, r_bm, r_bm0, r_chain, r_call, r_callK, r_meth, r_prop, r_make, r_and, r_or, andT_t, andT_f, orT_t, orT_f, ifK_t, ifK_f, ifE_t, ifE_f, andK_t, andK_f, orK_t, orK_f, L2.start, List.map_cons, List.map_nil, List.length_cons, List.length_nil, List.replicate_succ, List.replicate_zero, List.cons_append, List.nil_append, List.getElem?_cons_succ, List.getElem?_cons_zero, List.set_cons_succ, List.set_cons_zero, Nat.reduceAdd, Nat.reduceSub, Nat.zero_add, decide_true, decide_false, Bool.not_true, Bool.not_false, if_true, if_false, rEq, rNe, scal_ii, scal_ss, scal_bb, scal_is, scal_si, scal_ns, scal_ni, scal_in, scal_sn, scal_nn, rI, rI0, rU, rIxLH, rIxTH, rLenH, rLenTH, rSetL, rCatN, rTupOfN, rLstOfN, rSlLN, rSlTN, CDiv, CPow, CMul, CDivW, rNeNil, rLenO, rSplitN, rRepN, r_replC, rMulS, r_methK, rRepTN, r_cmK, rCmpO, Bool.false_xor, Bool.true_xor, r_starT, r_starL, r_cm, r_cval, selK_t, selK_f, rAppend, rIsK, reduceCtorEq, upd_same, at0, at1, at2, at3, at4, at5, at6, at7, at8, at9, at10, at11, at12, at13, ix3_0, ix3_1, ix3_2, V.int.injEq, V.bl.injEq, V.str.injEq, V.ref.injEq, Option.some.injEq, HO.lst.injEq, HO.tup.injEq, HO.ins.injEq, List.cons.injEq, and_true, true_and, exists_eq_left, exists_eq_left', exists_and_left, exists_eq', exists_eq, and_assoc, N_names_in, hf]
          by_cases h3 : ((ns.map V.str).length : Int) ≤ 12
          · have h4 : ns.length ≤ 12 := by rw [List.length_map] at h3; omega
            try simp only [cxK, r_lam, r_dnew, r_err, r_base, r_serr, r_var, r_c, r_seq, r_next, r_break, r_cont, r_drop, r_ret, r_retN, r_if, r_ife, r_asg, r_name, r_op, r_un, r_nil, r_cons, r_lst2, r_tup2, r_lc, r_for, r_ilist, r_itup, r_istr, r_irng1, r_irng2, r_ienum, r_ienumS, wipe, r_cb, r_test, r_b, r_not, r_notV, r_andV, r_orV, r_isN, r_notN, r_m1, r_m0, r_fld, sFld, putF, r_par, r_sub, r_gtup, r_gnil, r_gcons, r_sl, r_nopart, r_part, r_bm, r_bm0, r_chain, r_call, r_callK, r_meth, r_prop, r_make, r_and, r_or, andT_t, andT_f, orT_t, orT_f, ifK_t, ifK_f, ifE_t, ifE_f, andK_t, andK_f, orK_t, orK_f, L2.start, List.map_cons, List.map_nil, List.length_cons, List.length_nil, List.replicate_succ, List.replicate_zero, List.cons_append, List.nil_append, List.getElem?_cons_succ, List.getElem?_cons_zero, List.set_cons_succ, List.set_cons_zero, Nat.reduceAdd, Nat.reduceSub, Nat.zero_add, decide_true, decide_false, Bool.not_true, Bool.not_false, if_true, if_false, rEq, rNe, scal_ii, scal_ss, scal_bb, scal_is, scal_si, scal_ns, scal_ni, scal_in, scal_sn, scal_nn, rI, rI0, rU, rIxLH, rIxTH, rLenH, rLenTH, rSetL, rCatN, rTupOfN, rLstOfN, rSlLN, rSlTN, CDiv, CPow, CMul, CDivW, rNeNil, rLenO, rSplitN, rRepN, r_replC, rMulS, r_methK, rRepTN, r_cmK, rCmpO, Bool.false_xor, Bool.true_xor, r_starT, r_starL, r_cm, r_cval, selK_t, selK_f, rAppend, rIsK, reduceCtorEq, upd_same, at0, at1, at2, at3, at4, at5, at6, at7, at8, at9, at10, at11, at12, at13, ix3_0, ix3_1, ix3_2, V.int.injEq, V.bl.injEq, V.str.injEq, V.ref.injEq, Option.some.injEq, HO.lst.injEq, HO.tup.injEq, HO.ins.injEq, List.cons.injEq, and_true, true_and, exists_eq_left, exists_eq_left', exists_and_left, exists_eq', exists_eq, and_assoc, N_names_in, h3]
            exact q1 f ns H2 (same_trans n1.same s2) (er2.trans (if_pos h4)) hf hN h4
          · have h4 : ¬ ns.length ≤ 12 := fun z => h3 (by rw [List.length_map]; omega)
            try simp only [cxK, r_lam, r_dnew, r_err, r_base, r_serr, r_var, r_c, r_seq, r_next, r_break, r_cont, r_drop, r_ret, r_retN, r_if, r_ife, r_asg, r_name, r_op, r_un, r_nil, r_cons, r_lst2, r_tup2, r_lc, r_for, r_ilist, r_itup, r_istr, r_irng1, r_irng2, r_ienum, r_ienumS, wipe, r_cb, r_test, r_b, r_not, r_notV, r_andV, r_orV, r_isN, r_notN, r_m1, r_m0, r_fld, sFld, putF, r_par, r_sub, r_gtup, r_gnil, r_gcons, r_sl, r_nopart, r_part, r_bm, r_bm0, r_chain, r_call, r_callK, r_meth, r_prop, r_make, r_and, r_or, andT_t, andT_f, orT_t, orT_f, ifK_t, ifK_f, ifE_t, ifE_f, andK_t, andK_f, orK_t, orK_f, L2.start, List.map_cons, List.map_nil, List.length_cons, List.length_nil, List.replicate_succ, List.replicate_zero, List.cons_append, List.nil_append, List.getElem?_cons_succ, List.getElem?_cons_zero, List.set_cons_succ, List.set_cons_zero, Nat.reduceAdd, Nat.reduceSub, Nat.zero_add, decide_true, decide_false, Bool.not_true, Bool.not_false, if_true, if_false, rEq, rNe, scal_ii, scal_ss, scal_bb, scal_is, scal_si, scal_ns, scal_ni, scal_in, scal_sn, scal_nn, rI, rI0, rU, rIxLH, rIxTH, rLenH, rLenTH, rSetL, rCatN, rTupOfN, rLstOfN, rSlLN, rSlTN, CDiv, CPow, CMul, CDivW, rNeNil, rLenO, rSplitN, rRepN, r_replC, rMulS, r_methK, rRepTN, r_cmK, rCmpO, Bool.false_xor, Bool.true_xor, r_starT, r_starL, r_cm, r_cval, selK_t, selK_f, rAppend, rIsK, reduceCtorEq, upd_same, at0, at1, at2, at3, at4, at5, at6, at7, at8, at9, at10, at11, at12, at13, ix3_0, ix3_1, ix3_2, V.int.injEq, V.bl.injEq, V.str.injEq, V.ref.injEq, Option.some.injEq, HO.lst.injEq, HO.tup.injEq, HO.ins.injEq, List.cons.injEq, and_true, true_and, exists_eq_left, exists_eq_left', exists_and_left, exists_eq', exists_eq, and_assoc, N_names_in, h3]
            exact q0 H2 (same_trans n1.same s2) (er2.trans (if_neg h4))
      · rw [if_neg h2] at er2
        try simp only [cxK, r_lam, r_dnew, r_err, r_base, r_serr, r_var, r_c, r_seq, r_next, r_break, r_cont, r_drop, r_ret, r_retN, r_if, r_ife, r_asg, r_name, r_op, r_un, r_nil, r_cons, r_lst2, r_tup2, r_lc, r_for, r_ilist, r_itup, r_istr, r_irng1, r_irng2, r_ienum, r_ienumS, wipe, r_cb, r_test, r_b, r_not, r_notV, r_andV, r_orV, r_isN, r_notN, r_m1, r_m0, r_fld, sFld, putF, r_par, r_sub, r_gtup, r_gnil, r_gcons, r_sl, r_nopart, r_part, r_bm, r_bm0, r_chain, r_call, r_callK, r_meth, r_prop, r_make, r_and, r_or, andT_t, andT_f, orT_t, orT_f, ifK_t, ifK_f, ifE_t, ifE_f, andK_t, andK_f, orK_t, orK_f, L2.start, List.map_cons, List.map_nil, List.length_cons, List.length_nil, List.replicate_succ, List.replicate_zero, List.cons_append, List.nil_append, List.getElem?_cons_succ, List.getElem?_cons_zero, List.set_cons_succ, List.set_cons_zero, Nat.reduceAdd, Nat.reduceSub, Nat.zero_add, decide_true, decide_false, Bool.not_true, Bool.not_false, if_true, if_false, rEq, rNe, scal_ii, scal_ss, scal_bb, scal_is, scal_si, scal_ns, scal_ni, scal_in, scal_sn, scal_nn, rI, rI0, rU, rIxLH, rIxTH, rLenH, rLenTH, rSetL, rCatN, rTupOfN, rLstOfN, rSlLN, rSlTN, CDiv, CPow, CMul, CDivW, rNeNil, rLenO, rSplitN, rRepN, r_replC, rMulS, r_methK, rRepTN, r_cmK, rCmpO, Bool.false_xor, Bool.true_xor, r_starT, r_starL, r_cm, r_cval, selK_t, selK_f, rAppend, rIsK, reduceCtorEq, upd_same, at0, at1, at2, at3, at4, at5, at6, at7, at8, at9, at10, at11, at12, at13, ix3_0, ix3_1, ix3_2, V.int.injEq, V.bl.injEq, V.str.injEq, V.ref.injEq, Option.some.injEq, HO.lst.injEq, HO.tup.injEq, HO.ins.injEq, List.cons.injEq, and_true, true_and, exists_eq_left, exists_eq_left', exists_and_left, exists_eq', exists_eq, and_assoc, N_names_in, h2]
        exact q0 H same_refl er2
  · try simp only [cxK, r_lam, r_dnew, r_err, r_base, r_serr, r_var, r_c, r_seq, r_next, r_break, r_cont, r_drop, r_ret, r_retN, r_if, r_ife, r_asg, r_name, r_op, r_un, r_nil, r_cons, r_lst2, r_tup2, r_lc, r_for, r_ilist, r_itup, r_istr, r_irng1, r_irng2, r_ienum, r_ienumS, wipe, r_cb, r_test, r_b, r_not, r_notV, r_andV, r_orV, r_isN, r_notN, r_m1, r_m0, r_fld, sFld, putF, r_par, r_sub, r_gtup, r_gnil, r_gcons, r_sl, r_nopart, r_part, r_bm, r_bm0, r_chain, r_call, r_callK, r_meth, r_prop, r_make, r_and, r_or, andT_t, andT_f, orT_t, orT_f, ifK_t, ifK_f, ifE_t, ifE_f, andK_t, andK_f, orK_t, orK_f, L2.start, List.map_cons, List.map_nil, List.length_cons, List.length_nil, List.replicate_succ, List.replicate_zero, List.cons_append, List.nil_append, List.getElem?_cons_succ, List.getElem?_cons_zero, List.set_cons_succ, List.set_cons_zero, Nat.reduceAdd, Nat.reduceSub, Nat.zero_add, decide_true, decide_false, Bool.not_true, Bool.not_false, if_true, if_false, rEq, rNe, scal_ii, scal_ss, scal_bb, scal_is, scal_si, scal_ns, scal_ni, scal_in, scal_sn, scal_nn, rI, rI0, rU, rIxLH, rIxTH, rLenH, rLenTH, rSetL, rCatN, rTupOfN, rLstOfN, rSlLN, rSlTN, CDiv, CPow, CMul, CDivW, rNeNil, rLenO, rSplitN, rRepN, r_replC, rMulS, r_methK, rRepTN, r_cmK, rCmpO, Bool.false_xor, Bool.true_xor, r_starT, r_starL, r_cm, r_cval, selK_t, selK_f, rAppend, rIsK, reduceCtorEq, upd_same, at0, at1, at2, at3, at4, at5, at6, at7, at8, at9, at10, at11, at12, at13, ix3_0, ix3_1, ix3_2, V.int.injEq, V.bl.injEq, V.str.injEq, V.ref.injEq, Option.some.injEq, HO.lst.injEq, HO.tup.injEq, HO.ins.injEq, List.cons.injEq, and_true, true_and, exists_eq_left, exists_eq_left', exists_and_left, exists_eq', exists_eq, and_assoc, N_names_in]
    obtain ⟨t, ty, kt⟩ := ho.ty (K := K)
    refine isi_ty (r := false) ty kt ?_
    try simp only [cxK, r_lam, r_dnew, r_err, r_base, r_serr, r_var, r_c, r_seq, r_next, r_break, r_cont, r_drop, r_ret, r_retN, r_if, r_ife, r_asg, r_name, r_op, r_un, r_nil, r_cons, r_lst2, r_tup2, r_lc, r_for, r_ilist, r_itup, r_istr, r_irng1, r_irng2, r_ienum, r_ienumS, wipe, r_cb, r_test, r_b, r_not, r_notV, r_andV, r_orV, r_isN, r_notN, r_m1, r_m0, r_fld, sFld, putF, r_par, r_sub, r_gtup, r_gnil, r_gcons, r_sl, r_nopart, r_part, r_bm, r_bm0, r_chain, r_call, r_callK, r_meth, r_prop, r_make, r_and, r_or, andT_t, andT_f, orT_t, orT_f, ifK_t, ifK_f, ifE_t, ifE_f, andK_t, andK_f, orK_t, orK_f, L2.start, List.map_cons, List.map_nil, List.length_cons, List.length_nil, List.replicate_succ, List.replicate_zero, List.cons_append, List.nil_append, List.getElem?_cons_succ, List.getElem?_cons_zero, List.set_cons_succ, List.set_cons_zero, Nat.reduceAdd, Nat.reduceSub, Nat.zero_add, decide_true, decide_false, Bool.not_true, Bool.not_false, if_true, if_false, rEq, rNe, scal_ii, scal_ss, scal_bb, scal_is, scal_si, scal_ns, scal_ni, scal_in, scal_sn, scal_nn, rI, rI0, rU, rIxLH, rIxTH, rLenH, rLenTH, rSetL, rCatN, rTupOfN, rLstOfN, rSlLN, rSlTN, CDiv, CPow, CMul, CDivW, rNeNil, rLenO, rSplitN, rRepN, r_replC, rMulS, r_methK, rRepTN, r_cmK, rCmpO, Bool.false_xor, Bool.true_xor, r_starT, r_starL, r_cm, r_cval, selK_t, selK_f, rAppend, rIsK, reduceCtorEq, upd_same, at0, at1, at2, at3, at4, at5, at6, at7, at8, at9, at10, at11, at12, at13, ix3_0, ix3_1, ix3_2, V.int.injEq, V.bl.injEq, V.str.injEq, V.ref.injEq, Option.some.injEq, HO.lst.injEq, HO.tup.injEq, HO.ins.injEq, List.cons.injEq, and_true, true_and, exists_eq_left, exists_eq_left', exists_and_left, exists_eq', exists_eq, and_assoc, N_names_in]
    exact q0 H same_refl er
  · try simp only [cxK, r_lam, r_dnew, r_err, r_base, r_serr, r_var, r_c, r_seq, r_next, r_break, r_cont, r_drop, r_ret, r_retN, r_if, r_ife, r_asg, r_name, r_op, r_un, r_nil, r_cons, r_lst2, r_tup2, r_lc, r_for, r_ilist, r_itup, r_istr, r_irng1, r_irng2, r_ienum, r_ienumS, wipe, r_cb, r_test, r_b, r_not, r_notV, r_andV, r_orV, r_isN, r_notN, r_m1, r_m0, r_fld, sFld, putF, r_par, r_sub, r_gtup, r_gnil, r_gcons, r_sl, r_nopart, r_part, r_bm, r_bm0, r_chain, r_call, r_callK, r_meth, r_prop, r_make, r_and, r_or, andT_t, andT_f, orT_t, orT_f, ifK_t, ifK_f, ifE_t, ifE_f, andK_t, andK_f, orK_t, orK_f, L2.start, List.map_cons, List.map_nil, List.length_cons, List.length_nil, List.replicate_succ, List.replicate_zero, List.cons_append, List.nil_append, List.getElem?_cons_succ, List.getElem?_cons_zero, List.set_cons_succ, List.set_cons_zero, Nat.reduceAdd, Nat.reduceSub, Nat.zero_add, decide_true, decide_false, Bool.not_true, Bool.not_false, if_true, if_false, rEq, rNe, scal_ii, scal_ss, scal_bb, scal_is, scal_si, scal_ns, scal_ni, scal_in, scal_sn, scal_nn, rI, rI0, rU, rIxLH, rIxTH, rLenH, rLenTH, rSetL, rCatN, rTupOfN, rLstOfN, rSlLN, rSlTN, CDiv, CPow, CMul, CDivW, rNeNil, rLenO, rSplitN, rRepN, r_replC, rMulS, r_methK, rRepTN, r_cmK, rCmpO, Bool.false_xor, Bool.true_xor, r_starT, r_starL, r_cm, r_cval, selK_t, selK_f, rAppend, rIsK, reduceCtorEq, upd_same, at0, at1, at2, at3, at4, at5, at6, at7, at8, at9, at10, at11, at12, at13, ix3_0, ix3_1, ix3_2, V.int.injEq, V.bl.injEq, V.str.injEq, V.ref.injEq, Option.some.injEq, HO.lst.injEq, HO.tup.injEq, HO.ins.injEq, List.cons.injEq, and_true, true_and, exists_eq_left, exists_eq_left', exists_and_left, exists_eq', exists_eq, and_assoc, N_names_in]
    refine ⟨_, .ty "str", _, _, false, rfl, .ty "str", .base ((ins_ok (cls_ok (T.c.fact 14 (f := fCls "Path") rfl)) (T.c.fact 33 (f := fIns "Path") rfl)) hp), (kit_ok (T.c.fact 34 (f := fKit (fun K => .ref (ga K "Path")) (fun _ => .type "str") false) rfl)), ?_⟩
    try simp only [cxK, r_lam, r_dnew, r_err, r_base, r_serr, r_var, r_c, r_seq, r_next, r_break, r_cont, r_drop, r_ret, r_retN, r_if, r_ife, r_asg, r_name, r_op, r_un, r_nil, r_cons, r_lst2, r_tup2, r_lc, r_for, r_ilist, r_itup, r_istr, r_irng1, r_irng2, r_ienum, r_ienumS, wipe, r_cb, r_test, r_b, r_not, r_notV, r_andV, r_orV, r_isN, r_notN, r_m1, r_m0, r_fld, sFld, putF, r_par, r_sub, r_gtup, r_gnil, r_gcons, r_sl, r_nopart, r_part, r_bm, r_bm0, r_chain, r_call, r_callK, r_meth, r_prop, r_make, r_and, r_or, andT_t, andT_f, orT_t, orT_f, ifK_t, ifK_f, ifE_t, ifE_f, andK_t, andK_f, orK_t, orK_f, L2.start, List.map_cons, List.map_nil, List.length_cons, List.length_nil, List.replicate_succ, List.replicate_zero, List.cons_append, List.nil_append, List.getElem?_cons_succ, List.getElem?_cons_zero, List.set_cons_succ, List.set_cons_zero, Nat.reduceAdd, Nat.reduceSub, Nat.zero_add, decide_true, decide_false, Bool.not_true, Bool.not_false, if_true, if_false, rEq, rNe, scal_ii, scal_ss, scal_bb, scal_is, scal_si, scal_ns, scal_ni, scal_in, scal_sn, scal_nn, rI, rI0, rU, rIxLH, rIxTH, rLenH, rLenTH, rSetL, rCatN, rTupOfN, rLstOfN, rSlLN, rSlTN, CDiv, CPow, CMul, CDivW, rNeNil, rLenO, rSplitN, rRepN, r_replC, rMulS, r_methK, rRepTN, r_cmK, rCmpO, Bool.false_xor, Bool.true_xor, r_starT, r_starL, r_cm, r_cval, selK_t, selK_f, rAppend, rIsK, reduceCtorEq, upd_same, at0, at1, at2, at3, at4, at5, at6, at7, at8, at9, at10, at11, at12, at13, ix3_0, ix3_1, ix3_2, V.int.injEq, V.bl.injEq, V.str.injEq, V.ref.injEq, Option.some.injEq, HO.lst.injEq, HO.tup.injEq, HO.ins.injEq, List.cons.injEq, and_true, true_and, exists_eq_left, exists_eq_left', exists_and_left, exists_eq', exists_eq, and_assoc, N_names_in]
    exact q0 H same_refl er
/-- a path or its text -/
def spParse (K : PySem.W.Frag) : Sp := fun vs H Q E => ∃ (v : V) (r : Option (List Str)), vs = [.ref (ga K "Path"), v] ∧ PStr K H v r ∧ (∀ ns p H', r = some ns → Same H H' → IsPath K H' p ns → ns.length ≤ 12 → (∀ x ∈ ns, isNm x = true) → Q (.ref p) H') ∧ ∀ d fs H', r = none → Same H H' → H' d = some (.xd fs) → E (.ref (ga K "BadPath")) (some d) H'
theorem ok_Path_parse (T : Tx fa fn K mg) : Fn gd P w K mg base 5 (aC "Path" "parse" K) [] (spParse K) := by
  obtain ⟨fd, F⟩ := F_Path_parse T
  refine fn_all F sc_Path_parse (fun vs H Q E h => ?_) (b_Path_parse F) (fun cdv A outer s H vs Q E hr h => ⟨_, (pss_cons (ps_set (i := 2) sc_Path_parse.nd rfl (Or.inl rfl) (pe_fn (ok_names_in T) (hr.mono (by decide)) rfl (g_names_in T) (k_names_in T) passD (pa_cons (pv 1) pa_nil)))
 (pss_cons (ps_if (pt_cmpR op_isN (pv 2) pe_non (nomark _))
 (pss_one (ps_rerr rfl (takes_of rfl rfl rfl rfl) (ox_BadPath T) (ok_BadPath_init T) (hr.mono (by decide)) rfl (T.glo (T.c.fact 12 (f := fGlo "BadPath") rfl)) passL (pa_cons pe_str pa_nil)))
 pss_nil)
 (pss_one (ps_ret (pe_mkLS (pv 0) (mkr_ok (T.c.fact 35 (f := fMkr "Path") rfl)) (ok_Path_init T) (hr.mono (by decide)) passD (pv 2)))))), ?_⟩)
  · first | (obtain ⟨_, e, _⟩ := h; subst e; rfl) | (obtain ⟨_, _, e, _⟩ := h; subst e; rfl) | (obtain ⟨_, _, _, e, _⟩ := h; subst e; rfl) | (obtain ⟨_, _, _, _, e, _⟩ := h; subst e; rfl) | (obtain ⟨_, _, _, _, _, e, _⟩ := h; subst e; rfl) | (obtain ⟨_, _, _, _, _, _, e, _⟩ := h; subst e; rfl) | (obtain ⟨_, _, _, _, _, _, _, e, _⟩ := h; subst e; rfl) | (obtain ⟨_, _, _, _, _, _, _, _, e, _⟩ := h; subst e; rfl) | (obtain ⟨_, _, _, _, _, _, _, _, _, e, _⟩ := h; subst e; rfl) | (obtain ⟨_, _, _, _, _, _, _, _, _, _, e, _⟩ := h; subst e; rfl) | (obtain ⟨_, _, _, _, _, _, _, _, _, _, _, e, _⟩ := h; subst e; rfl)
  obtain ⟨v, r, rfl, hp, q0, q1⟩ := h
  try simp only [cxK, r_lam, r_dnew, r_err, r_base, r_serr, r_var, r_c, r_seq, r_next, r_break, r_cont, r_drop, r_ret, r_retN, r_if, r_ife, r_asg, r_name, r_op, r_un, r_nil, r_cons, r_lst2, r_tup2, r_lc, r_for, r_ilist, r_itup, r_istr, r_irng1, r_irng2, r_ienum, r_ienumS, wipe, r_cb, r_test, r_b, r_not, r_notV, r_andV, r_orV, r_isN, r_notN, r_m1, r_m0, r_fld, sFld, putF, r_par, r_sub, r_gtup, r_gnil, r_gcons, r_sl, r_nopart, r_part, r_bm, r_bm0, r_chain, r_call, r_callK, r_meth, r_prop, r_make, r_and, r_or, andT_t, andT_f, orT_t, orT_f, ifK_t, ifK_f, ifE_t, ifE_f, andK_t, andK_f, orK_t, orK_f, L2.start, List.map_cons, List.map_nil, List.length_cons, List.length_nil, List.replicate_succ, List.replicate_zero, List.cons_append, List.nil_append, List.getElem?_cons_succ, List.getElem?_cons_zero, List.set_cons_succ, List.set_cons_zero, Nat.reduceAdd, Nat.reduceSub, Nat.zero_add, decide_true, decide_false, Bool.not_true, Bool.not_false, if_true, if_false, rEq, rNe, scal_ii, scal_ss, scal_bb, scal_is, scal_si, scal_ns, scal_ni, scal_in, scal_sn, scal_nn, rI, rI0, rU, rIxLH, rIxTH, rLenH, rLenTH, rSetL, rCatN, rTupOfN, rLstOfN, rSlLN, rSlTN, CDiv, CPow, CMul, CDivW, rNeNil, rLenO, rSplitN, rRepN, r_replC, rMulS, r_methK, rRepTN, r_cmK, rCmpO, Bool.false_xor, Bool.true_xor, r_starT, r_starL, r_cm, r_cval, selK_t, selK_f, rAppend, rIsK, reduceCtorEq, upd_same, at0, at1, at2, at3, at4, at5, at6, at7, at8, at9, at10, at11, at12, at13, ix3_0, ix3_1, ix3_2, V.int.injEq, V.bl.injEq, V.str.injEq, V.ref.injEq, Option.some.injEq, HO.lst.injEq, HO.tup.injEq, HO.ins.injEq, List.cons.injEq, and_true, true_and, exists_eq_left, exists_eq_left', exists_and_left, exists_eq', exists_eq, and_assoc, N_Path_parse]
  refine ⟨v, r, rfl, hp, fun H1 s1 er => ?_, fun f ns H1 s1 er hf hN hl => ?_⟩
  · try simp only [cxK, r_lam, r_dnew, r_err, r_base, r_serr, r_var, r_c, r_seq, r_next, r_break, r_cont, r_drop, r_ret, r_retN, r_if, r_ife, r_asg, r_name, r_op, r_un, r_nil, r_cons, r_lst2, r_tup2, r_lc, r_for, r_ilist, r_itup, r_istr, r_irng1, r_irng2, r_ienum, r_ienumS, wipe, r_cb, r_test, r_b, r_not, r_notV, r_andV, r_orV, r_isN, r_notN, r_m1, r_m0, r_fld, sFld, putF, r_par, r_sub, r_gtup, r_gnil, r_gcons, r_sl, r_nopart, r_part, r_bm, r_bm0, r_chain, r_call, r_callK, r_meth, r_prop, r_make, r_and, r_or, andT_t, andT_f, orT_t, orT_f, ifK_t, ifK_f, ifE_t, ifE_f, andK_t, andK_f, orK_t, orK_f, L2.start, List.map_cons, List.map_nil, List.length_cons, List.length_nil, List.replicate_succ, List.replicate_zero, List.cons_append, List.nil_append, List.getElem?_cons_succ, List.getElem?_cons_zero, List.set_cons_succ, List.set_cons_zero, Nat.reduceAdd, Nat.reduceSub, Nat.zero_add, decide_true, decide_false, Bool.not_true, Bool.not_false, if_true, if_false, rEq, rNe, scal_ii, scal_ss, scal_bb, scal_is, scal_si, scal_ns, scal_ni, scal_in, scal_sn, scal_nn, rI, rI0, rU, rIxLH, rIxTH, rLenH, rLenTH, rSetL, rCatN, rTupOfN, rLstOfN, rSlLN, rSlTN, CDiv, CPow, CMul, CDivW, rNeNil, rLenO, rSplitN, rRepN, r_replC, rMulS, r_methK, rRepTN, r_cmK, rCmpO, Bool.false_xor, Bool.true_xor, r_starT, r_starL, r_cm, r_cval, selK_t, selK_f, rAppend, rIsK, reduceCtorEq, upd_same, at0, at1, at2, at3, at4, at5, at6, at7, at8, at9, at10, at11, at12, at13, ix3_0, ix3_1, ix3_2, V.int.injEq, V.bl.injEq, V.str.injEq, V.ref.injEq, Option.some.injEq, HO.lst.injEq, HO.tup.injEq, HO.ins.injEq, List.cons.injEq, and_true, true_and, exists_eq_left, exists_eq_left', exists_and_left, exists_eq', exists_eq, and_assoc, N_Path_parse]
    intro d H2 n2
    exact q1 d _ H2 er (same_trans s1 n2.same) n2.at_
  · try simp only [cxK, r_lam, r_dnew, r_err, r_base, r_serr, r_var, r_c, r_seq, r_next, r_break, r_cont, r_drop, r_ret, r_retN, r_if, r_ife, r_asg, r_name, r_op, r_un, r_nil, r_cons, r_lst2, r_tup2, r_lc, r_for, r_ilist, r_itup, r_istr, r_irng1, r_irng2, r_ienum, r_ienumS, wipe, r_cb, r_test, r_b, r_not, r_notV, r_andV, r_orV, r_isN, r_notN, r_m1, r_m0, r_fld, sFld, putF, r_par, r_sub, r_gtup, r_gnil, r_gcons, r_sl, r_nopart, r_part, r_bm, r_bm0, r_chain, r_call, r_callK, r_meth, r_prop, r_make, r_and, r_or, andT_t, andT_f, orT_t, orT_f, ifK_t, ifK_f, ifE_t, ifE_f, andK_t, andK_f, orK_t, orK_f, L2.start, List.map_cons, List.map_nil, List.length_cons, List.length_nil, List.replicate_succ, List.replicate_zero, List.cons_append, List.nil_append, List.getElem?_cons_succ, List.getElem?_cons_zero, List.set_cons_succ, List.set_cons_zero, Nat.reduceAdd, Nat.reduceSub, Nat.zero_add, decide_true, decide_false, Bool.not_true, Bool.not_false, if_true, if_false, rEq, rNe, scal_ii, scal_ss, scal_bb, scal_is, scal_si, scal_ns, scal_ni, scal_in, scal_sn, scal_nn, rI, rI0, rU, rIxLH, rIxTH, rLenH, rLenTH, rSetL, rCatN, rTupOfN, rLstOfN, rSlLN, rSlTN, CDiv, CPow, CMul, CDivW, rNeNil, rLenO, rSplitN, rRepN, r_replC, rMulS, r_methK, rRepTN, r_cmK, rCmpO, Bool.false_xor, Bool.true_xor, r_starT, r_starL, r_cm, r_cval, selK_t, selK_f, rAppend, rIsK, reduceCtorEq, upd_same, at0, at1, at2, at3, at4, at5, at6, at7, at8, at9, at10, at11, at12, at13, ix3_0, ix3_1, ix3_2, V.int.injEq, V.bl.injEq, V.str.injEq, V.ref.injEq, Option.some.injEq, HO.lst.injEq, HO.tup.injEq, HO.ins.injEq, List.cons.injEq, and_true, true_and, exists_eq_left, exists_eq_left', exists_and_left, exists_eq', exists_eq, and_assoc, N_Path_parse]
    exact ⟨_, Or.inl (SqT.of hf), path_made hl hN fun p H3 s3 hp3 => q0 ns p H3 er (same_trans s1 s3) hp3 hl hN⟩

theorem ok_Path_parse_string (T : Tx fa fn K mg) : Fn gd P w K mg base 5 (aC "Path" "parse" K) ["string"] (spParse K) := by
  obtain ⟨fd, F⟩ := F_Path_parse T
  refine fn_keyP (n := 1) (ks := ["string"]) F sc_Path_parse (fun vs H Q E h => ?_) (by decide) (kb_Path_parse_string F) (fun cdv A outer s H vs Q E hr h => ⟨_, (pss_cons (ps_set (i := 2) sc_Path_parse.nd rfl (Or.inl rfl) (pe_fn (ok_names_in T) (hr.mono (by decide)) rfl (g_names_in T) (k_names_in T) passD (pa_cons (pv 1) pa_nil)))
 (pss_cons (ps_if (pt_cmpR op_isN (pv 2) pe_non (nomark _))
 (pss_one (ps_rerr rfl (takes_of rfl rfl rfl rfl) (ox_BadPath T) (ok_BadPath_init T) (hr.mono (by decide)) rfl (T.glo (T.c.fact 12 (f := fGlo "BadPath") rfl)) passL (pa_cons pe_str pa_nil)))
 pss_nil)
 (pss_one (ps_ret (pe_mkLS (pv 0) (mkr_ok (T.c.fact 35 (f := fMkr "Path") rfl)) (ok_Path_init T) (hr.mono (by decide)) passD (pv 2)))))), ?_⟩)
  · first | (obtain ⟨_, e, _⟩ := h; subst e; rfl) | (obtain ⟨_, _, e, _⟩ := h; subst e; rfl) | (obtain ⟨_, _, _, e, _⟩ := h; subst e; rfl) | (obtain ⟨_, _, _, _, e, _⟩ := h; subst e; rfl) | (obtain ⟨_, _, _, _, _, e, _⟩ := h; subst e; rfl) | (obtain ⟨_, _, _, _, _, _, e, _⟩ := h; subst e; rfl) | (obtain ⟨_, _, _, _, _, _, _, e, _⟩ := h; subst e; rfl) | (obtain ⟨_, _, _, _, _, _, _, _, e, _⟩ := h; subst e; rfl) | (obtain ⟨_, _, _, _, _, _, _, _, _, e, _⟩ := h; subst e; rfl) | (obtain ⟨_, _, _, _, _, _, _, _, _, _, e, _⟩ := h; subst e; rfl) | (obtain ⟨_, _, _, _, _, _, _, _, _, _, _, e, _⟩ := h; subst e; rfl)
  obtain ⟨v, r, rfl, hp, q0, q1⟩ := h
  try simp only [cxK, r_lam, r_dnew, r_err, r_base, r_serr, r_var, r_c, r_seq, r_next, r_break, r_cont, r_drop, r_ret, r_retN, r_if, r_ife, r_asg, r_name, r_op, r_un, r_nil, r_cons, r_lst2, r_tup2, r_lc, r_for, r_ilist, r_itup, r_istr, r_irng1, r_irng2, r_ienum, r_ienumS, wipe, r_cb, r_test, r_b, r_not, r_notV, r_andV, r_orV, r_isN, r_notN, r_m1, r_m0, r_fld, sFld, putF, r_par, r_sub, r_gtup, r_gnil, r_gcons, r_sl, r_nopart, r_part, r_bm, r_bm0, r_chain, r_call, r_callK, r_meth, r_prop, r_make, r_and, r_or, andT_t, andT_f, orT_t, orT_f, ifK_t, ifK_f, ifE_t, ifE_f, andK_t, andK_f, orK_t, orK_f, L2.start, List.map_cons, List.map_nil, List.length_cons, List.length_nil, List.replicate_succ, List.replicate_zero, List.cons_append, List.nil_append, List.getElem?_cons_succ, List.getElem?_cons_zero, List.set_cons_succ, List.set_cons_zero, Nat.reduceAdd, Nat.reduceSub, Nat.zero_add, decide_true, decide_false, Bool.not_true, Bool.not_false, if_true, if_false, rEq, rNe, scal_ii, scal_ss, scal_bb, scal_is, scal_si, scal_ns, scal_ni, scal_in, scal_sn, scal_nn, rI, rI0, rU, rIxLH, rIxTH, rLenH, rLenTH, rSetL, rCatN, rTupOfN, rLstOfN, rSlLN, rSlTN, CDiv, CPow, CMul, CDivW, rNeNil, rLenO, rSplitN, rRepN, r_replC, rMulS, r_methK, rRepTN, r_cmK, rCmpO, Bool.false_xor, Bool.true_xor, r_starT, r_starL, r_cm, r_cval, selK_t, selK_f, rAppend, rIsK, reduceCtorEq, upd_same, at0, at1, at2, at3, at4, at5, at6, at7, at8, at9, at10, at11, at12, at13, ix3_0, ix3_1, ix3_2, V.int.injEq, V.bl.injEq, V.str.injEq, V.ref.injEq, Option.some.injEq, HO.lst.injEq, HO.tup.injEq, HO.ins.injEq, List.cons.injEq, and_true, true_and, exists_eq_left, exists_eq_left', exists_and_left, exists_eq', exists_eq, and_assoc, N_Path_parse]
  refine ⟨v, r, rfl, hp, fun H1 s1 er => ?_, fun f ns H1 s1 er hf hN hl => ?_⟩
  · try simp only [cxK, r_lam, r_dnew, r_err, r_base, r_serr, r_var, r_c, r_seq, r_next, r_break, r_cont, r_drop, r_ret, r_retN, r_if, r_ife, r_asg, r_name, r_op, r_un, r_nil, r_cons, r_lst2, r_tup2, r_lc, r_for, r_ilist, r_itup, r_istr, r_irng1, r_irng2, r_ienum, r_ienumS, wipe, r_cb, r_test, r_b, r_not, r_notV, r_andV, r_orV, r_isN, r_notN, r_m1, r_m0, r_fld, sFld, putF, r_par, r_sub, r_gtup, r_gnil, r_gcons, r_sl, r_nopart, r_part, r_bm, r_bm0, r_chain, r_call, r_callK, r_meth, r_prop, r_make, r_and, r_or, andT_t, andT_f, orT_t, orT_f, ifK_t, ifK_f, ifE_t, ifE_f, andK_t, andK_f, orK_t, orK_f, L2.start, List.map_cons, List.map_nil, List.length_cons, List.length_nil, List.replicate_succ, List.replicate_zero, List.cons_append, List.nil_append, List.getElem?_cons_succ, List.getElem?_cons_zero, List.set_cons_succ, List.set_cons_zero, Nat.reduceAdd, Nat.reduceSub, Nat.zero_add, decide_true, decide_false, Bool.not_true, Bool.not_false, if_true, if_false, rEq, rNe, scal_ii, scal_ss, scal_bb, scal_is, scal_si, scal_ns, scal_ni, scal_in, scal_sn, scal_nn, rI, rI0, rU, rIxLH, rIxTH, rLenH, rLenTH, rSetL, rCatN, rTupOfN, rLstOfN, rSlLN, rSlTN, CDiv, CPow, CMul, CDivW, rNeNil, rLenO, rSplitN, rRepN, r_replC, rMulS, r_methK, rRepTN, r_cmK, rCmpO, Bool.false_xor, Bool.true_xor, r_starT, r_starL, r_cm, r_cval, selK_t, selK_f, rAppend, rIsK, reduceCtorEq, upd_same, at0, at1, at2, at3, at4, at5, at6, at7, at8, at9, at10, at11, at12, at13, ix3_0, ix3_1, ix3_2, V.int.injEq, V.bl.injEq, V.str.injEq, V.ref.injEq, Option.some.injEq, HO.lst.injEq, HO.tup.injEq, HO.ins.injEq, List.cons.injEq, and_true, true_and, exists_eq_left, exists_eq_left', exists_and_left, exists_eq', exists_eq, and_assoc, N_Path_parse]
    intro d H2 n2
    exact q1 d _ H2 er (same_trans s1 n2.same) n2.at_
  · try simp only [cxK, r_lam, r_dnew, r_err, r_base, r_serr, r_var, r_c, r_seq, r_next, r_break, r_cont, r_drop, r_ret, r_retN, r_if, r_ife, r_asg, r_name, r_op, r_un, r_nil, r_cons, r_lst2, r_tup2, r_lc, r_for, r_ilist, r_itup, r_istr, r_irng1, r_irng2, r_ienum, r_ienumS, wipe, r_cb, r_test, r_b, r_not, r_notV, r_andV, r_orV, r_isN, r_notN, r_m1, r_m0, r_fld, sFld, putF, r_par, r_sub, r_gtup, r_gnil, r_gcons, r_sl, r_nopart, r_part, r_bm, r_bm0, r_chain, r_call, r_callK, r_meth, r_prop, r_make, r_and, r_or, andT_t, andT_f, orT_t, orT_f, ifK_t, ifK_f, ifE_t, ifE_f, andK_t, andK_f, orK_t, orK_f, L2.start, List.map_cons, List.map_nil, List.length_cons, List.length_nil, List.replicate_succ, List.replicate_zero, List.cons_append, List.nil_append, List.getElem?_cons_succ, List.getElem?_cons_zero, List.set_cons_succ, List.set_cons_zero, Nat.reduceAdd, Nat.reduceSub, Nat.zero_add, decide_true, decide_false, Bool.not_true, Bool.not_false, if_true, if_false, rEq, rNe, scal_ii, scal_ss, scal_bb, scal_is, scal_si, scal_ns, scal_ni, scal_in, scal_sn, scal_nn, rI, rI0, rU, rIxLH, rIxTH, rLenH, rLenTH, rSetL, rCatN, rTupOfN, rLstOfN, rSlLN, rSlTN, CDiv, CPow, CMul, CDivW, rNeNil, rLenO, rSplitN, rRepN, r_replC, rMulS, r_methK, rRepTN, r_cmK, rCmpO, Bool.false_xor, Bool.true_xor, r_starT, r_starL, r_cm, r_cval, selK_t, selK_f, rAppend, rIsK, reduceCtorEq, upd_same, at0, at1, at2, at3, at4, at5, at6, at7, at8, at9, at10, at11, at12, at13, ix3_0, ix3_1, ix3_2, V.int.injEq, V.bl.injEq, V.str.injEq, V.ref.injEq, Option.some.injEq, HO.lst.injEq, HO.tup.injEq, HO.ins.injEq, List.cons.injEq, and_true, true_and, exists_eq_left, exists_eq_left', exists_and_left, exists_eq', exists_eq, and_assoc, N_Path_parse]
    exact ⟨_, Or.inl (SqT.of hf), path_made hl hN fun p H3 s3 hp3 => q0 ns p H3 er (same_trans s1 s3) hp3 hl hN⟩

end

section
variable {gd : Bool} {P : Program} {w : World} {K : PySem.W.Frag} {mg : Str → Option Value} {base : Heap}

def spSpelled : Sp := fun vs H Q _ => ∃ (l : Addr) (ns : List Str), vs = [.ref l] ∧ H l = some (.lst (ns.map V.str)) ∧ Nms ns ∧ ∀ H', Same H H' → Q (.str (textOf ns)) H'
end

section
variable {gd : Bool} {P : Program} {w : World} {K : PySem.W.Frag} {mg : Str → Option Value} {base : Heap}

theorem joinL_flat (S : List Nat) (p : List Nat) : ∀ ps : List (List Nat), joinL S (p :: ps) = p ++ ps.flatMap (fun q => S ++ q)
  | [] => by simp [joinL]
  | q :: r => by
    have ih := joinL_flat S q r
    show p ++ (S ++ joinL S (q :: r)) = _
    rw [ih]
    simp
theorem st_up {b : List Str} : stepNm (some b) ".." = some (b.take (b.length - 1)) := by
  unfold stepNm
  exact if_pos rfl
theorem nm_ne {n : Str} (h : isNm n = true) : n ≠ ".." := fun e => by
  rw [e, pt2_eq] at h
  have : isNm pt2 = false := by decide +kernel
  rw [this] at h
  cases h
theorem st_nm {b : List Str} {n : Str} (h : isNm n = true) : stepNm (some b) n = some (b ++ [n]) := by
  show (if n = ".." then _ else if isNm n = true then _ else _) = _
  rw [if_neg (nm_ne h), if_pos h]
theorem e0_eq : PySem.Str.ofString "" = ⟨#[]⟩ := by decide +kernel
theorem st_same {b : List Str} {n : Str} (h : n = "" ∨ n = ".") : stepNm (some b) n = some b := by
  have h1 : ¬ n = ".." := by
    rcases h with rfl | rfl
    · rw [e0_eq, pt2_eq]
      decide +kernel
    · rw [pt1_eq, pt2_eq]
      decide +kernel
  have h2 : isNm n = false := by
    rcases h with rfl | rfl
    · rw [e0_eq]
      decide +kernel
    · rw [pt1_eq]
      decide +kernel
  show (if n = ".." then _ else if isNm n = true then _ else if n = "" ∨ n = "." then _ else _) = _
  rw [if_neg h1, h2, if_neg Bool.false_ne_true, if_pos h]
theorem fold_nms : ∀ (ns b : List Str), (∀ x ∈ ns, isNm x = true) → ns.foldl stepNm (some b) = some (b ++ ns)
  | [], b, _ => by simp
  | n :: r, b, h => by
    rw [List.foldl_cons, st_nm (h n List.mem_cons_self), fold_nms r _ fun x hx => h x (List.mem_cons_of_mem _ hx)]
    simp
theorem fold_dbl : ∀ (ns b : List Str), (∀ x ∈ ns, isNm x = true) → (ns.flatMap fun n => [PySem.Str.ofString "", n]).foldl stepNm (some b) = some (b ++ ns)
  | [], b, _ => by simp
  | n :: r, b, h => by
    rw [List.flatMap_cons, List.foldl_append, List.foldl_cons, List.foldl_cons, List.foldl_nil, st_same (.inl rfl), st_nm (h n List.mem_cons_self), fold_dbl r _ fun x hx => h x (List.mem_cons_of_mem _ hx)]
    simp
theorem nm_free {n : Str} (h : isNm n = true) : 47 ∉ tl n := fun e => by
  unfold isNm at h
  simp only [Bool.and_eq_true] at h
  have z := of_decide_eq_true (List.all_eq_true.mp h.2 47 e)
  exact absurd z (by decide)
theorem cut1 {z : Str} {r : List Nat} (h : tl z = 47 :: r) : cutS z none (some 1) = "/" := by
  have hl : z.length = r.length + 1 := by
    show z.cps.size = _
    rw [← Array.length_toList]
    exact (congrArg List.length h).trans (List.length_cons ..)
  rw [slash_eq]
  unfold cutS
  rw [HT.sIx_none, show (1 : Int) = ((1 : Nat) : Int) from rfl, HT.sIx_nat, hl, Nat.min_eq_left (by omega), List.drop_zero, Nat.sub_zero]
  rw [show z.cps.toList = 47 :: r from h]
  rfl
theorem namesIn_of {z : Str} {ps ns : List Str} (hz : tl z = ps.flatMap fun q => 47 :: tl q) (hne : ps ≠ []) (hf : ∀ p ∈ ps, 47 ∉ tl p) (hl : z.length ≤ 200) (hn : ps.foldl stepNm (some []) = some ns) (h12 : ns.length ≤ 12) : namesIn z = some ns := by
  have ez : z = Str.join slash (PySem.Str.ofString "" :: ps) := by
    refine TL.ext_tl ?_
    rw [tl_join, hz, List.map_cons, joinL_flat]
    have e1 : tl (PySem.Str.ofString "") = [] := by rw [e0_eq] <;> rfl
    rw [e1, List.flatMap_map]
    rfl
  have sp : Txt.split z slash = PySem.Str.ofString "" :: ps := by
    rw [ez, ← join_eq]
    refine split_join (y := slash) (s := 47) (S := []) rfl (by decide +kernel) (List.cons_ne_nil _ _) fun p hp => ?_
    rcases List.mem_cons.mp hp with rfl | hp
    · rw [e0_eq]
      exact nofun
    · exact hf p hp
  have hc : cutS z none (some 1) = "/" := by
    cases ps with
    | nil => exact absurd rfl hne
    | cons p r => exact cut1 (r := tl p ++ r.flatMap fun q => 47 :: tl q) (by rw [hz]; simp)
  have hn2 : namesOf [] (Txt.split z slash) = some ns := by
    rw [sp]
    show List.foldl stepNm (stepNm (some []) "") ps = _
    rw [st_same (.inl rfl)]
    exact hn
  unfold namesIn
  rw [if_neg (by omega), if_pos hc, hn2]
  show (if ns.length ≤ 12 then some ns else none) = _
  rw [if_pos h12]
theorem text_tl {ns : List Str} (h : ns ≠ []) : tl (textOf ns) = ns.flatMap fun q => 47 :: tl q := by
  unfold textOf
  rw [if_neg h, join_eq, tl_join, e0_eq]
  have e : ∀ ps : List (List Nat), joinL [] ps = ps.flatten := by
    intro ps
    cases ps with
    | nil => rfl
    | cons p r =>
      rw [joinL_flat]
      simp
  rw [show tl (⟨#[]⟩ : Str) = [] from rfl, e, List.map_map, List.flatMap_def]
  congr 1
  refine List.map_congr_left fun x _ => ?_
  show tl (PySem.Str.ofString "/" ++ x) = _
  rw [slash_eq]
  exact TL.tl_append slash x
theorem flat_len {ns : List Str} {k : Nat} {f : Str → List Nat} (h : ∀ x ∈ ns, (f x).length ≤ k) : (ns.flatMap f).length ≤ ns.length * k := by
  induction ns with
  | nil => simp
  | cons n r ih =>
    have h1 := h n List.mem_cons_self
    have h2 := ih fun x hx => h x (List.mem_cons_of_mem _ hx)
    rw [List.flatMap_cons, List.length_append, List.length_cons, Nat.add_mul]
    omega
/-- a spelled path is read -/
theorem names_text {ns : List Str} (hl : ns.length ≤ 12) (hN : ∀ x ∈ ns, isNm x = true) : namesIn (textOf ns) = some ns := by
  by_cases hn : ns = []
  · subst hn
    have e : textOf [] = slash := slash_eq
    rw [e]
    refine namesIn_of (ps := [PySem.Str.ofString ""]) (by rw [e0_eq] <;> rfl) (List.cons_ne_nil _ _) (fun p hp => ?_) (by decide) (by rw [List.foldl_cons, List.foldl_nil, st_same (.inl rfl)]) (by decide)
    rw [List.mem_singleton.mp hp, e0_eq]
    exact nofun
  · refine namesIn_of (text_tl hn) hn (fun p hp => nm_free (hN p hp)) ?_ (by rw [fold_nms ns [] hN]; rfl) hl
    show (textOf ns).cps.size ≤ 200
    rw [← Array.length_toList, show (textOf ns).cps.toList = _ from text_tl hn]
    have z := flat_len (k := 13) (ns := ns) (f := fun q => 47 :: tl q) fun x hx => by
      have := (isNm_fits (hN x hx)).1
      have e : (tl x).length = x.length := Array.length_toList
      simp only [List.length_cons]
      omega
    omega
theorem dbl_flat : ∀ {ns : List Str}, (∀ x ∈ ns, 47 ∉ tl x) → StrLaws.dbl 47 (ns.flatMap fun q => 47 :: tl q) = ns.flatMap fun q => 47 :: 47 :: tl q
  | [], _ => rfl
  | n :: r, h => by
    rw [List.flatMap_cons, List.flatMap_cons, StrLaws.dbl_append, dbl_flat fun x hx => h x (List.mem_cons_of_mem _ hx)]
    have e : StrLaws.dbl 47 (47 :: tl n) = 47 :: 47 :: tl n := by
      show (if (47 : Nat) = 47 then 47 :: 47 :: StrLaws.dbl 47 (tl n) else _) = _
      rw [if_pos rfl, StrLaws.dbl_free 47 _ (h n List.mem_cons_self)]
    rw [e]
/-- /x/.. + the doubled text + /. -/
def oddOf (ns : List Str) : Str := ("/x/.." : Str) ++ Txt.replace (textOf ns) ("/" : Str) ("//" : Str) ++ ("/." : Str)
theorem names_odd {ns : List Str} (hl : ns.length ≤ 12) (hN : ∀ x ∈ ns, isNm x = true) : namesIn (oddOf ns) = some ns := by
  have f1 : PySem.Str.ofString "/x/.." = ⟨#[47, 120, 47, 46, 46]⟩ := by decide +kernel
  have f2 : PySem.Str.ofString "/." = ⟨#[47, 46]⟩ := by decide +kernel
  have f3 : PySem.Str.ofString "//" = ⟨#[47, 47]⟩ := by decide +kernel
  have fx : PySem.Str.ofString "x" = ⟨#[120]⟩ := by decide +kernel
  have et : tl (oddOf ns) = [47, 120, 47, 46, 46] ++ StrLaws.dbl 47 (tl (textOf ns)) ++ [47, 46] := by
    unfold oddOf
    rw [TL.tl_append, TL.tl_append, f1, f2, f3, slash_eq]
    rw [show tl (Txt.replace (textOf ns) slash ⟨#[47, 47]⟩) = StrLaws.dbl 47 (tl (textOf ns)) from StrLaws.replace_double (textOf ns) 47]
  have nx : isNm "x" = true := by
    rw [fx]
    decide +kernel
  have sz : (oddOf ns).length = (tl (oddOf ns)).length := Array.length_toList.symm
  have mk : ∀ (qs : List Str) (hq : ∀ p ∈ qs, 47 ∉ tl p) (hd : StrLaws.dbl 47 (tl (textOf ns)) = qs.flatMap fun q => 47 :: tl q) (h1 : (qs.flatMap fun q => 47 :: tl q).length ≤ 193) (hf : qs.foldl stepNm (some []) = some ns), namesIn (oddOf ns) = some ns := by
    intro qs hq hd h1 hf
    rw [hd] at et
    refine namesIn_of (ps := PySem.Str.ofString "x" :: PySem.Str.ofString ".." :: (qs ++ [PySem.Str.ofString "."])) ?_ (List.cons_ne_nil _ _) ?_ ?_ ?_ hl
    · rw [et, List.flatMap_cons, List.flatMap_cons, List.flatMap_append, fx, pt2_eq]
      simp only [List.flatMap_cons, List.flatMap_nil, pt1_eq]
      simp [tl, pt1, pt2]
    · intro p hp
      rcases List.mem_cons.mp hp with rfl | hp
      · rw [fx]
        decide
      · rcases List.mem_cons.mp hp with rfl | hp
        · rw [pt2_eq]
          decide
        · rcases List.mem_append.mp hp with hp | hp
          · exact hq p hp
          · rw [List.mem_singleton.mp hp, pt1_eq]
            decide
    · rw [sz, et]
      simp only [List.length_append, List.length_cons, List.length_nil]
      omega
    · rw [List.foldl_cons, List.foldl_cons, st_nm nx, st_up, List.foldl_append]
      show List.foldl stepNm (List.foldl stepNm (some []) qs) [PySem.Str.ofString "."] = _
      rw [hf, List.foldl_cons, List.foldl_nil, st_same (.inr rfl)]
  by_cases hn : ns = []
  · subst hn
    have e : textOf [] = slash := slash_eq
    refine mk [PySem.Str.ofString "", PySem.Str.ofString ""] (fun p hp => ?_) ?_ ?_ ?_
    · have : p = PySem.Str.ofString "" := by simpa using hp
      rw [this, e0_eq]
      exact nofun
    · rw [e, e0_eq]
      rfl
    · rw [e0_eq]
      decide
    · rw [List.foldl_cons, List.foldl_cons, List.foldl_nil, st_same (.inl rfl), st_same (.inl rfl)]
  · refine mk (ns.flatMap fun n => [PySem.Str.ofString "", n]) (fun p hp => ?_) ?_ ?_ ?_
    · obtain ⟨n, hn2, hp⟩ := List.mem_flatMap.mp hp
      rcases List.mem_cons.mp hp with rfl | hp
      · rw [e0_eq]
        exact nofun
      · rw [List.mem_singleton.mp hp]
        exact nm_free (hN n hn2)
    · rw [text_tl hn, dbl_flat fun x hx => nm_free (hN x hx), List.flatMap_assoc, e0_eq]
      congr 1
      funext x
      simp [tl]
    · rw [List.flatMap_assoc]
      have z := flat_len (k := 14) (ns := ns) (f := fun n => [PySem.Str.ofString "", n].flatMap fun q => 47 :: tl q) fun x hx => by
        have : x.cps.size ≤ 12 := (isNm_fits (hN x hx)).1
        have e : (tl x).length = x.cps.size := Array.length_toList
        rw [e0_eq]
        simp [tl]
        omega
      omega
    · rw [fold_dbl ns [] hN]
      rfl

end

section
variable {gd : Bool} {P : Program} {w : World} {K : PySem.W.Frag} {mg : Str → Option Value} {base : Heap}

/-- == of two paths -/
def spEqP (K : PySem.W.Frag) : Sp := fun vs H Q _ => ∃ (p r : Addr) (ns ms : List Str), vs = [.ref p, .ref r] ∧ IsPath K H p ns ∧ IsPath K H r ms ∧ (∀ x ∈ ns, isNm x = true) ∧ (∀ x ∈ ms, isNm x = true) ∧ Q (.bl (decide (ns = ms))) H
theorem ok_Path_eq (T : Tx fa fn K mg) : Fn gd P w K mg base 1 (aM "Path" "__eq__" K) [] (spEqP K) := by
  obtain ⟨fd, F⟩ := F_Path_eq T
  refine fn_all F sc_Path_eq (fun vs H Q E h => ?_) (b_Path_eq F) (fun cdv A outer s H vs Q E hr h => ⟨_, (pss_one (ps_ret (pe_and (pe_callB call_isi (by rfl) (T.free (T.c.fact 9 (f := fFree "isinstance") rfl)) (by decide +kernel) (pa_cons (pv 1) (pa_cons (pe_glob (v := .ref (ga _ "Path")) rfl (T.glo (T.c.fact 36 (f := fGlo "Path") rfl)) rfl) pa_nil))) (pe_one (pe_cmpR (op_eqD hr.r.units) (pe_fld (pv 0) rfl) (pe_fld (pv 1) rfl) (nomark _)))))), ?_⟩)
  · first | (obtain ⟨_, e, _⟩ := h; subst e; rfl) | (obtain ⟨_, _, e, _⟩ := h; subst e; rfl) | (obtain ⟨_, _, _, e, _⟩ := h; subst e; rfl) | (obtain ⟨_, _, _, _, e, _⟩ := h; subst e; rfl) | (obtain ⟨_, _, _, _, _, e, _⟩ := h; subst e; rfl) | (obtain ⟨_, _, _, _, _, _, e, _⟩ := h; subst e; rfl) | (obtain ⟨_, _, _, _, _, _, _, e, _⟩ := h; subst e; rfl) | (obtain ⟨_, _, _, _, _, _, _, _, e, _⟩ := h; subst e; rfl) | (obtain ⟨_, _, _, _, _, _, _, _, _, e, _⟩ := h; subst e; rfl) | (obtain ⟨_, _, _, _, _, _, _, _, _, _, e, _⟩ := h; subst e; rfl) | (obtain ⟨_, _, _, _, _, _, _, _, _, _, _, e, _⟩ := h; subst e; rfl)
  obtain ⟨p, r, ns, ms, rfl, ⟨dx, t, hp1, hp2⟩, ⟨dy, u, hr1, hr2⟩, hN, hM, q⟩ := h
  try simp only [cxK, r_lam, r_dnew, r_err, r_base, r_serr, r_var, r_c, r_seq, r_next, r_break, r_cont, r_drop, r_ret, r_retN, r_if, r_ife, r_asg, r_name, r_op, r_un, r_nil, r_cons, r_lst2, r_tup2, r_lc, r_for, r_ilist, r_itup, r_istr, r_irng1, r_irng2, r_ienum, r_ienumS, wipe, r_cb, r_test, r_b, r_not, r_notV, r_andV, r_orV, r_isN, r_notN, r_m1, r_m0, r_fld, sFld, putF, r_par, r_sub, r_gtup, r_gnil, r_gcons, r_sl, r_nopart, r_part, r_bm, r_bm0, r_chain, r_call, r_callK, r_meth, r_prop, r_make, r_and, r_or, andT_t, andT_f, orT_t, orT_f, ifK_t, ifK_f, ifE_t, ifE_f, andK_t, andK_f, orK_t, orK_f, L2.start, List.map_cons, List.map_nil, List.length_cons, List.length_nil, List.replicate_succ, List.replicate_zero, List.cons_append, List.nil_append, List.getElem?_cons_succ, List.getElem?_cons_zero, List.set_cons_succ, List.set_cons_zero, Nat.reduceAdd, Nat.reduceSub, Nat.zero_add, decide_true, decide_false, Bool.not_true, Bool.not_false, if_true, if_false, rEq, rNe, scal_ii, scal_ss, scal_bb, scal_is, scal_si, scal_ns, scal_ni, scal_in, scal_sn, scal_nn, rI, rI0, rU, rIxLH, rIxTH, rLenH, rLenTH, rSetL, rCatN, rTupOfN, rLstOfN, rSlLN, rSlTN, CDiv, CPow, CMul, CDivW, rNeNil, rLenO, rSplitN, rRepN, r_replC, rMulS, r_methK, rRepTN, r_cmK, rCmpO, Bool.false_xor, Bool.true_xor, r_starT, r_starL, r_cm, r_cval, selK_t, selK_f, rAppend, rIsK, reduceCtorEq, upd_same, at0, at1, at2, at3, at4, at5, at6, at7, at8, at9, at10, at11, at12, at13, ix3_0, ix3_1, ix3_2, V.int.injEq, V.bl.injEq, V.str.injEq, V.ref.injEq, Option.some.injEq, HO.lst.injEq, HO.tup.injEq, HO.ins.injEq, List.cons.injEq, and_true, true_and, exists_eq_left, exists_eq_left', exists_and_left, exists_eq', exists_eq, and_assoc, N_Path_eq]
  refine isi_own ((ins_ok (cls_ok (T.c.fact 14 (f := fCls "Path") rfl)) (T.c.fact 33 (f := fIns "Path") rfl)) hr1) (kit_ok (T.c.fact 37 (f := fKit (fun K => .ref (ga K "Path")) (fun K => .ref (ga K "Path")) true) rfl)) ?_
  try simp only [cxK, r_lam, r_dnew, r_err, r_base, r_serr, r_var, r_c, r_seq, r_next, r_break, r_cont, r_drop, r_ret, r_retN, r_if, r_ife, r_asg, r_name, r_op, r_un, r_nil, r_cons, r_lst2, r_tup2, r_lc, r_for, r_ilist, r_itup, r_istr, r_irng1, r_irng2, r_ienum, r_ienumS, wipe, r_cb, r_test, r_b, r_not, r_notV, r_andV, r_orV, r_isN, r_notN, r_m1, r_m0, r_fld, sFld, putF, r_par, r_sub, r_gtup, r_gnil, r_gcons, r_sl, r_nopart, r_part, r_bm, r_bm0, r_chain, r_call, r_callK, r_meth, r_prop, r_make, r_and, r_or, andT_t, andT_f, orT_t, orT_f, ifK_t, ifK_f, ifE_t, ifE_f, andK_t, andK_f, orK_t, orK_f, L2.start, List.map_cons, List.map_nil, List.length_cons, List.length_nil, List.replicate_succ, List.replicate_zero, List.cons_append, List.nil_append, List.getElem?_cons_succ, List.getElem?_cons_zero, List.set_cons_succ, List.set_cons_zero, Nat.reduceAdd, Nat.reduceSub, Nat.zero_add, decide_true, decide_false, Bool.not_true, Bool.not_false, if_true, if_false, rEq, rNe, scal_ii, scal_ss, scal_bb, scal_is, scal_si, scal_ns, scal_ni, scal_in, scal_sn, scal_nn, rI, rI0, rU, rIxLH, rIxTH, rLenH, rLenTH, rSetL, rCatN, rTupOfN, rLstOfN, rSlLN, rSlTN, CDiv, CPow, CMul, CDivW, rNeNil, rLenO, rSplitN, rRepN, r_replC, rMulS, r_methK, rRepTN, r_cmK, rCmpO, Bool.false_xor, Bool.true_xor, r_starT, r_starL, r_cm, r_cval, selK_t, selK_f, rAppend, rIsK, reduceCtorEq, upd_same, at0, at1, at2, at3, at4, at5, at6, at7, at8, at9, at10, at11, at12, at13, ix3_0, ix3_1, ix3_2, V.int.injEq, V.bl.injEq, V.str.injEq, V.ref.injEq, Option.some.injEq, HO.lst.injEq, HO.tup.injEq, HO.ins.injEq, List.cons.injEq, and_true, true_and, exists_eq_left, exists_eq_left', exists_and_left, exists_eq', exists_eq, and_assoc, N_Path_eq, hp1, hr1]
  refine ⟨(cls_ok (T.c.fact 14 (f := fCls "Path") rfl)), (noat_ok (T.c.fact 15 (f := fNo "Path" "names") rfl)), _, rfl, (cls_ok (T.c.fact 14 (f := fCls "Path") rfl)), (noat_ok (T.c.fact 15 (f := fNo "Path" "names") rfl)), _, rfl, ?_⟩
  exact eqD_strT hp2 hr2 (fun x hx => (isNm_fits (hN x hx)).2.1) (fun x hx => (isNm_fits (hM x hx)).2.1) q

end

section
variable {gd : Bool} {P : Program} {w : World} {K : PySem.W.Frag} {mg : Str → Option Value} {base : Heap}

theorem src_ne {H : Hp} {a l : Addr} {j : Int} {ns : List Str} (h : Src H a j) (k : H l = some (.lst (ns.map V.str))) : l ≠ a := fun e => by
  obtain ⟨c, d, z, _⟩ := h
  rw [e, z] at k
  cases ns with
  | nil => cases k
  | cons x r => cases k
def spPart : Sp := fun vs H Q _ => ∃ (a : Addr) (j : Int), vs = [.ref a] ∧ Src H a j ∧ j < 100000000000 ∧ ∀ (z : Str) (j' : Int) (H' : Hp), (isNm z = true ∨ z = "" ∨ z = "." ∨ z = "..") → j ≤ j' → j' ≤ j + 2 → Oth a H H' → Src H' a j' → Q (.str z) H'
theorem ok_law_part (T : Tx fa fn K mg) : Fn gd P w K mg base 4 (aG "_law_part" K) [] spPart := by
  obtain ⟨fd, F⟩ := F_law_part T
  refine fn_all F sc_law_part (fun vs H Q E h => ?_) (b_law_part F) (fun cdv A outer s H vs Q E hr h => ⟨_, (pss_cons (ps_set (i := 1) sc_law_part.nd rfl (Or.inl rfl) (pe_fn (ok_law_next T) (hr.mono (by decide)) rfl (g_law_next T) (k_law_next T) passD (pa_cons (pv 0) (pa_cons pe_int pa_nil))))
 (pss_cons (ps_if (pt_cmpR op_eq (pv 1) pe_int (nomark _))
 (pss_one (ps_ret (pe_fn (ok_law_pick T) (hr.mono (by decide)) rfl (g_law_pick T) (k_law_pick T) passD (pa_cons (pv 0) (pa_cons (pe_lst (pa_cons pe_str (pa_cons pe_str (pa_cons pe_str pa_nil)))) pa_nil)))))
 pss_nil)
 (pss_one (ps_ret (pe_ifExp (pt_cmpR op_eq (pv 1) pe_int (nomark _)) pe_str (pe_fn (ok_law_good_name T) (hr.mono (by decide)) rfl (g_law_good_name T) (k_law_good_name T) passD (pa_cons (pv 0) pa_nil))))))), ?_⟩)
  · first | (obtain ⟨_, e, _⟩ := h; subst e; rfl) | (obtain ⟨_, _, e, _⟩ := h; subst e; rfl) | (obtain ⟨_, _, _, e, _⟩ := h; subst e; rfl) | (obtain ⟨_, _, _, _, e, _⟩ := h; subst e; rfl) | (obtain ⟨_, _, _, _, _, e, _⟩ := h; subst e; rfl) | (obtain ⟨_, _, _, _, _, _, e, _⟩ := h; subst e; rfl) | (obtain ⟨_, _, _, _, _, _, _, e, _⟩ := h; subst e; rfl) | (obtain ⟨_, _, _, _, _, _, _, _, e, _⟩ := h; subst e; rfl) | (obtain ⟨_, _, _, _, _, _, _, _, _, e, _⟩ := h; subst e; rfl) | (obtain ⟨_, _, _, _, _, _, _, _, _, _, e, _⟩ := h; subst e; rfl) | (obtain ⟨_, _, _, _, _, _, _, _, _, _, _, e, _⟩ := h; subst e; rfl)
  obtain ⟨a, j, rfl, hs, j1, q⟩ := h
  try simp only [cxK, r_lam, r_dnew, r_err, r_base, r_serr, r_var, r_c, r_seq, r_next, r_break, r_cont, r_drop, r_ret, r_retN, r_if, r_ife, r_asg, r_name, r_op, r_un, r_nil, r_cons, r_lst2, r_tup2, r_lc, r_for, r_ilist, r_itup, r_istr, r_irng1, r_irng2, r_ienum, r_ienumS, wipe, r_cb, r_test, r_b, r_not, r_notV, r_andV, r_orV, r_isN, r_notN, r_m1, r_m0, r_fld, sFld, putF, r_par, r_sub, r_gtup, r_gnil, r_gcons, r_sl, r_nopart, r_part, r_bm, r_bm0, r_chain, r_call, r_callK, r_meth, r_prop, r_make, r_and, r_or, andT_t, andT_f, orT_t, orT_f, ifK_t, ifK_f, ifE_t, ifE_f, andK_t, andK_f, orK_t, orK_f, L2.start, List.map_cons, List.map_nil, List.length_cons, List.length_nil, List.replicate_succ, List.replicate_zero, List.cons_append, List.nil_append, List.getElem?_cons_succ, List.getElem?_cons_zero, List.set_cons_succ, List.set_cons_zero, Nat.reduceAdd, Nat.reduceSub, Nat.zero_add, decide_true, decide_false, Bool.not_true, Bool.not_false, if_true, if_false, rEq, rNe, scal_ii, scal_ss, scal_bb, scal_is, scal_si, scal_ns, scal_ni, scal_in, scal_sn, scal_nn, rI, rI0, rU, rIxLH, rIxTH, rLenH, rLenTH, rSetL, rCatN, rTupOfN, rLstOfN, rSlLN, rSlTN, CDiv, CPow, CMul, CDivW, rNeNil, rLenO, rSplitN, rRepN, r_replC, rMulS, r_methK, rRepTN, r_cmK, rCmpO, Bool.false_xor, Bool.true_xor, r_starT, r_starL, r_cm, r_cval, selK_t, selK_f, rAppend, rIsK, reduceCtorEq, upd_same, at0, at1, at2, at3, at4, at5, at6, at7, at8, at9, at10, at11, at12, at13, ix3_0, ix3_1, ix3_2, V.int.injEq, V.bl.injEq, V.str.injEq, V.ref.injEq, Option.some.injEq, HO.lst.injEq, HO.tup.injEq, HO.ins.injEq, List.cons.injEq, and_true, true_and, exists_eq_left, exists_eq_left', exists_and_left, exists_eq', exists_eq, and_assoc, N_law_part]
  refine ⟨a, 8, j, rfl, by decide, by decide, hs, by omega, fun r j2 H1 r0 r1 j3 j4 o1 hs1 => ?_⟩
  by_cases c0 : r = 0
  · try simp only [cxK, r_lam, r_dnew, r_err, r_base, r_serr, r_var, r_c, r_seq, r_next, r_break, r_cont, r_drop, r_ret, r_retN, r_if, r_ife, r_asg, r_name, r_op, r_un, r_nil, r_cons, r_lst2, r_tup2, r_lc, r_for, r_ilist, r_itup, r_istr, r_irng1, r_irng2, r_ienum, r_ienumS, wipe, r_cb, r_test, r_b, r_not, r_notV, r_andV, r_orV, r_isN, r_notN, r_m1, r_m0, r_fld, sFld, putF, r_par, r_sub, r_gtup, r_gnil, r_gcons, r_sl, r_nopart, r_part, r_bm, r_bm0, r_chain, r_call, r_callK, r_meth, r_prop, r_make, r_and, r_or, andT_t, andT_f, orT_t, orT_f, ifK_t, ifK_f, ifE_t, ifE_f, andK_t, andK_f, orK_t, orK_f, L2.start, List.map_cons, List.map_nil, List.length_cons, List.length_nil, List.replicate_succ, List.replicate_zero, List.cons_append, List.nil_append, List.getElem?_cons_succ, List.getElem?_cons_zero, List.set_cons_succ, List.set_cons_zero, Nat.reduceAdd, Nat.reduceSub, Nat.zero_add, decide_true, decide_false, Bool.not_true, Bool.not_false, if_true, if_false, rEq, rNe, scal_ii, scal_ss, scal_bb, scal_is, scal_si, scal_ns, scal_ni, scal_in, scal_sn, scal_nn, rI, rI0, rU, rIxLH, rIxTH, rLenH, rLenTH, rSetL, rCatN, rTupOfN, rLstOfN, rSlLN, rSlTN, CDiv, CPow, CMul, CDivW, rNeNil, rLenO, rSplitN, rRepN, r_replC, rMulS, r_methK, rRepTN, r_cmK, rCmpO, Bool.false_xor, Bool.true_xor, r_starT, r_starL, r_cm, r_cval, selK_t, selK_f, rAppend, rIsK, reduceCtorEq, upd_same, at0, at1, at2, at3, at4, at5, at6, at7, at8, at9, at10, at11, at12, at13, ix3_0, ix3_1, ix3_2, V.int.injEq, V.bl.injEq, V.str.injEq, V.ref.injEq, Option.some.injEq, HO.lst.injEq, HO.tup.injEq, HO.ins.injEq, List.cons.injEq, and_true, true_and, exists_eq_left, exists_eq_left', exists_and_left, exists_eq', exists_eq, and_assoc, N_law_part, c0]
    refine ⟨fits (by decide), fun l H2 n2 => ?_⟩
    refine ⟨a, l, j2, _, rfl, fun e => hs1.ne n2.1 e.symm, n2.at_, by simp, by simp, hs1.same n2.same, by omega, fun i v j5 H3 hv j6 j7 o3 hs3 => ?_⟩
    have hm := List.mem_of_getElem? hv
    simp only [List.mem_cons, List.not_mem_nil, or_false] at hm
    have o13 := Oth.trans o1 (Oth.trans (Oth.of n2.same) o3)
    rcases hm with rfl | rfl | rfl
    · exact q _ j5 H3 (.inr (.inl rfl)) (by omega) (by omega) o13 hs3
    · exact q _ j5 H3 (.inr (.inr (.inl rfl))) (by omega) (by omega) o13 hs3
    · exact q _ j5 H3 (.inr (.inr (.inl rfl))) (by omega) (by omega) o13 hs3
  · try simp only [cxK, r_lam, r_dnew, r_err, r_base, r_serr, r_var, r_c, r_seq, r_next, r_break, r_cont, r_drop, r_ret, r_retN, r_if, r_ife, r_asg, r_name, r_op, r_un, r_nil, r_cons, r_lst2, r_tup2, r_lc, r_for, r_ilist, r_itup, r_istr, r_irng1, r_irng2, r_ienum, r_ienumS, wipe, r_cb, r_test, r_b, r_not, r_notV, r_andV, r_orV, r_isN, r_notN, r_m1, r_m0, r_fld, sFld, putF, r_par, r_sub, r_gtup, r_gnil, r_gcons, r_sl, r_nopart, r_part, r_bm, r_bm0, r_chain, r_call, r_callK, r_meth, r_prop, r_make, r_and, r_or, andT_t, andT_f, orT_t, orT_f, ifK_t, ifK_f, ifE_t, ifE_f, andK_t, andK_f, orK_t, orK_f, L2.start, List.map_cons, List.map_nil, List.length_cons, List.length_nil, List.replicate_succ, List.replicate_zero, List.cons_append, List.nil_append, List.getElem?_cons_succ, List.getElem?_cons_zero, List.set_cons_succ, List.set_cons_zero, Nat.reduceAdd, Nat.reduceSub, Nat.zero_add, decide_true, decide_false, Bool.not_true, Bool.not_false, if_true, if_false, rEq, rNe, scal_ii, scal_ss, scal_bb, scal_is, scal_si, scal_ns, scal_ni, scal_in, scal_sn, scal_nn, rI, rI0, rU, rIxLH, rIxTH, rLenH, rLenTH, rSetL, rCatN, rTupOfN, rLstOfN, rSlLN, rSlTN, CDiv, CPow, CMul, CDivW, rNeNil, rLenO, rSplitN, rRepN, r_replC, rMulS, r_methK, rRepTN, r_cmK, rCmpO, Bool.false_xor, Bool.true_xor, r_starT, r_starL, r_cm, r_cval, selK_t, selK_f, rAppend, rIsK, reduceCtorEq, upd_same, at0, at1, at2, at3, at4, at5, at6, at7, at8, at9, at10, at11, at12, at13, ix3_0, ix3_1, ix3_2, V.int.injEq, V.bl.injEq, V.str.injEq, V.ref.injEq, Option.some.injEq, HO.lst.injEq, HO.tup.injEq, HO.ins.injEq, List.cons.injEq, and_true, true_and, exists_eq_left, exists_eq_left', exists_and_left, exists_eq', exists_eq, and_assoc, N_law_part, c0]
    by_cases c1 : r = 1
    · try simp only [cxK, r_lam, r_dnew, r_err, r_base, r_serr, r_var, r_c, r_seq, r_next, r_break, r_cont, r_drop, r_ret, r_retN, r_if, r_ife, r_asg, r_name, r_op, r_un, r_nil, r_cons, r_lst2, r_tup2, r_lc, r_for, r_ilist, r_itup, r_istr, r_irng1, r_irng2, r_ienum, r_ienumS, wipe, r_cb, r_test, r_b, r_not, r_notV, r_andV, r_orV, r_isN, r_notN, r_m1, r_m0, r_fld, sFld, putF, r_par, r_sub, r_gtup, r_gnil, r_gcons, r_sl, r_nopart, r_part, r_bm, r_bm0, r_chain, r_call, r_callK, r_meth, r_prop, r_make, r_and, r_or, andT_t, andT_f, orT_t, orT_f, ifK_t, ifK_f, ifE_t, ifE_f, andK_t, andK_f, orK_t, orK_f, L2.start, List.map_cons, List.map_nil, List.length_cons, List.length_nil, List.replicate_succ, List.replicate_zero, List.cons_append, List.nil_append, List.getElem?_cons_succ, List.getElem?_cons_zero, List.set_cons_succ, List.set_cons_zero, Nat.reduceAdd, Nat.reduceSub, Nat.zero_add, decide_true, decide_false, Bool.not_true, Bool.not_false, if_true, if_false, rEq, rNe, scal_ii, scal_ss, scal_bb, scal_is, scal_si, scal_ns, scal_ni, scal_in, scal_sn, scal_nn, rI, rI0, rU, rIxLH, rIxTH, rLenH, rLenTH, rSetL, rCatN, rTupOfN, rLstOfN, rSlLN, rSlTN, CDiv, CPow, CMul, CDivW, rNeNil, rLenO, rSplitN, rRepN, r_replC, rMulS, r_methK, rRepTN, r_cmK, rCmpO, Bool.false_xor, Bool.true_xor, r_starT, r_starL, r_cm, r_cval, selK_t, selK_f, rAppend, rIsK, reduceCtorEq, upd_same, at0, at1, at2, at3, at4, at5, at6, at7, at8, at9, at10, at11, at12, at13, ix3_0, ix3_1, ix3_2, V.int.injEq, V.bl.injEq, V.str.injEq, V.ref.injEq, Option.some.injEq, HO.lst.injEq, HO.tup.injEq, HO.ins.injEq, List.cons.injEq, and_true, true_and, exists_eq_left, exists_eq_left', exists_and_left, exists_eq', exists_eq, and_assoc, N_law_part, c1]
      exact q _ j2 H1 (.inr (.inr (.inr rfl))) (by omega) (by omega) o1 hs1
    · try simp only [cxK, r_lam, r_dnew, r_err, r_base, r_serr, r_var, r_c, r_seq, r_next, r_break, r_cont, r_drop, r_ret, r_retN, r_if, r_ife, r_asg, r_name, r_op, r_un, r_nil, r_cons, r_lst2, r_tup2, r_lc, r_for, r_ilist, r_itup, r_istr, r_irng1, r_irng2, r_ienum, r_ienumS, wipe, r_cb, r_test, r_b, r_not, r_notV, r_andV, r_orV, r_isN, r_notN, r_m1, r_m0, r_fld, sFld, putF, r_par, r_sub, r_gtup, r_gnil, r_gcons, r_sl, r_nopart, r_part, r_bm, r_bm0, r_chain, r_call, r_callK, r_meth, r_prop, r_make, r_and, r_or, andT_t, andT_f, orT_t, orT_f, ifK_t, ifK_f, ifE_t, ifE_f, andK_t, andK_f, orK_t, orK_f, L2.start, List.map_cons, List.map_nil, List.length_cons, List.length_nil, List.replicate_succ, List.replicate_zero, List.cons_append, List.nil_append, List.getElem?_cons_succ, List.getElem?_cons_zero, List.set_cons_succ, List.set_cons_zero, Nat.reduceAdd, Nat.reduceSub, Nat.zero_add, decide_true, decide_false, Bool.not_true, Bool.not_false, if_true, if_false, rEq, rNe, scal_ii, scal_ss, scal_bb, scal_is, scal_si, scal_ns, scal_ni, scal_in, scal_sn, scal_nn, rI, rI0, rU, rIxLH, rIxTH, rLenH, rLenTH, rSetL, rCatN, rTupOfN, rLstOfN, rSlLN, rSlTN, CDiv, CPow, CMul, CDivW, rNeNil, rLenO, rSplitN, rRepN, r_replC, rMulS, r_methK, rRepTN, r_cmK, rCmpO, Bool.false_xor, Bool.true_xor, r_starT, r_starL, r_cm, r_cval, selK_t, selK_f, rAppend, rIsK, reduceCtorEq, upd_same, at0, at1, at2, at3, at4, at5, at6, at7, at8, at9, at10, at11, at12, at13, ix3_0, ix3_1, ix3_2, V.int.injEq, V.bl.injEq, V.str.injEq, V.ref.injEq, Option.some.injEq, HO.lst.injEq, HO.tup.injEq, HO.ins.injEq, List.cons.injEq, and_true, true_and, exists_eq_left, exists_eq_left', exists_and_left, exists_eq', exists_eq, and_assoc, N_law_part, c1]
      exact ⟨a, j2, rfl, hs1, by omega, fun z j5 H3 hz j6 j7 o3 hs3 => q z j5 H3 (.inl hz) (by omega) (by omega) (Oth.trans o1 o3) hs3⟩
/-- the law's own reading of parts -/
def stepL (b : List Str) (p : Str) : List Str := if p = ".." then b.take (b.length - 1) else if p = "" ∨ p = "." then b else b ++ [p]
def rowOf (ps : List Str) : List Str := ps.foldl stepL []
def spNamesOf : Sp := fun vs H Q _ => ∃ (l : Addr) (ps : List Str), vs = [.ref l] ∧ H l = some (.lst (ps.map V.str)) ∧ ps.length ≤ 1000 ∧ ∀ p H', Same H H' → H' p = some (.lst ((rowOf ps).map V.str)) → Q (.ref p) H'
def NamPv (H : Hp) (ps : List Str) (l : Addr) (i : Nat) (σ : L2.St) (H' : Hp) : Prop := ∃ (f : Addr) (v2 : Option V), σ = [some (.ref l), some (.ref f), v2] ∧ H' f = some (.lst (((ps.take i).foldl stepL []).map V.str)) ∧ Same H H' ∧ ((ps.take i).foldl stepL []).length ≤ i
theorem ok_law_names_of (T : Tx fa fn K mg) : Fn gd P w K mg base 1 (aG "_law_names_of" K) [] spNamesOf := by
  obtain ⟨fd, F⟩ := F_law_names_of T
  refine fn_all F sc_law_names_of (fun vs H Q E h => ?_) (b_law_names_of F) (fun cdv A outer s H vs Q E hr h => ⟨_, (pss_cons (ps_set (i := 1) sc_law_names_of.nd rfl (Or.inl rfl) (pe_lst pa_nil))
 (pss_cons (ps_for passO rfl (pi_list (pv 0)) (pg_name (i := 2) sc_law_names_of.nd rfl (Or.inl rfl))
 (pss_one (ps_if (pt_cmpR op_eq (pv 2) pe_str (nomark _))
 (pss_one (ps_set (i := 1) sc_law_names_of.nd rfl (Or.inl rfl) (pe_slice sl_list_n (pv 1) po_none (po_some (pe_un un_neg pe_int)))))
 (pss_one (ps_if (pt_cmpR op_notIn_seq (pv 2) (pe_tup (pa_cons pe_str (pa_cons pe_str pa_nil))) rfl)
 (pss_one (ps_set (i := 1) sc_law_names_of.nd rfl (Or.inl rfl) (pe_op op_cat_n (pv 1) (pe_lst (pa_cons (pv 2) pa_nil)))))
 pss_nil)))))
 (pss_one (ps_ret (pv 1))))), ?_⟩)
  · first | (obtain ⟨_, e, _⟩ := h; subst e; rfl) | (obtain ⟨_, _, e, _⟩ := h; subst e; rfl) | (obtain ⟨_, _, _, e, _⟩ := h; subst e; rfl) | (obtain ⟨_, _, _, _, e, _⟩ := h; subst e; rfl) | (obtain ⟨_, _, _, _, _, e, _⟩ := h; subst e; rfl) | (obtain ⟨_, _, _, _, _, _, e, _⟩ := h; subst e; rfl) | (obtain ⟨_, _, _, _, _, _, _, e, _⟩ := h; subst e; rfl) | (obtain ⟨_, _, _, _, _, _, _, _, e, _⟩ := h; subst e; rfl) | (obtain ⟨_, _, _, _, _, _, _, _, _, e, _⟩ := h; subst e; rfl) | (obtain ⟨_, _, _, _, _, _, _, _, _, _, e, _⟩ := h; subst e; rfl) | (obtain ⟨_, _, _, _, _, _, _, _, _, _, _, e, _⟩ := h; subst e; rfl)
  obtain ⟨l, ps, rfl, hl, hp, q⟩ := h
  try simp only [cxK, r_lam, r_dnew, r_err, r_base, r_serr, r_var, r_c, r_seq, r_next, r_break, r_cont, r_drop, r_ret, r_retN, r_if, r_ife, r_asg, r_name, r_op, r_un, r_nil, r_cons, r_lst2, r_tup2, r_lc, r_for, r_ilist, r_itup, r_istr, r_irng1, r_irng2, r_ienum, r_ienumS, wipe, r_cb, r_test, r_b, r_not, r_notV, r_andV, r_orV, r_isN, r_notN, r_m1, r_m0, r_fld, sFld, putF, r_par, r_sub, r_gtup, r_gnil, r_gcons, r_sl, r_nopart, r_part, r_bm, r_bm0, r_chain, r_call, r_callK, r_meth, r_prop, r_make, r_and, r_or, andT_t, andT_f, orT_t, orT_f, ifK_t, ifK_f, ifE_t, ifE_f, andK_t, andK_f, orK_t, orK_f, L2.start, List.map_cons, List.map_nil, List.length_cons, List.length_nil, List.replicate_succ, List.replicate_zero, List.cons_append, List.nil_append, List.getElem?_cons_succ, List.getElem?_cons_zero, List.set_cons_succ, List.set_cons_zero, Nat.reduceAdd, Nat.reduceSub, Nat.zero_add, decide_true, decide_false, Bool.not_true, Bool.not_false, if_true, if_false, rEq, rNe, scal_ii, scal_ss, scal_bb, scal_is, scal_si, scal_ns, scal_ni, scal_in, scal_sn, scal_nn, rI, rI0, rU, rIxLH, rIxTH, rLenH, rLenTH, rSetL, rCatN, rTupOfN, rLstOfN, rSlLN, rSlTN, CDiv, CPow, CMul, CDivW, rNeNil, rLenO, rSplitN, rRepN, r_replC, rMulS, r_methK, rRepTN, r_cmK, rCmpO, Bool.false_xor, Bool.true_xor, r_starT, r_starL, r_cm, r_cval, selK_t, selK_f, rAppend, rIsK, reduceCtorEq, upd_same, at0, at1, at2, at3, at4, at5, at6, at7, at8, at9, at10, at11, at12, at13, ix3_0, ix3_1, ix3_2, V.int.injEq, V.bl.injEq, V.str.injEq, V.ref.injEq, Option.some.injEq, HO.lst.injEq, HO.tup.injEq, HO.ins.injEq, List.cons.injEq, and_true, true_and, exists_eq_left, exists_eq_left', exists_and_left, exists_eq', exists_eq, and_assoc, N_law_names_of]
  refine ⟨fits (by decide), fun f H1 n1 => ⟨⟨_, SqL.of (n1.old hl)⟩, ?_⟩⟩
  refine forK_lst (xs := ps.map V.str) (NamPv H ps l) ⟨f, none, rfl, n1.at_, n1.same, by simp⟩ ?_ ?_ ?_
  · rintro i σ H2 hi ⟨f, v2, rfl, hf, sm, _⟩
    exact SqL.of (sm _ _ hl)
  · rintro i x σ H2 hx ⟨f, v2, rfl, hf, sm, len⟩
    rw [List.getElem?_map] at hx
    obtain ⟨p, hpp, rfl⟩ := Option.map_eq_some_iff.mp hx
    have hi : i < ps.length := idx_lt hpp
    have st : (ps.take (i + 1)).foldl stepL [] = stepL ((ps.take i).foldl stepL []) p := by
      rw [List.take_add_one, hpp]
      show List.foldl stepL [] (ps.take i ++ [p]) = _
      rw [List.foldl_append]
      rfl
    obtain ⟨b, eb⟩ : ∃ b, b = (ps.take i).foldl stepL [] := ⟨_, rfl⟩
    rw [← eb] at hf len st
    by_cases c1 : p = ".."
    · try simp only [cxK, r_lam, r_dnew, r_err, r_base, r_serr, r_var, r_c, r_seq, r_next, r_break, r_cont, r_drop, r_ret, r_retN, r_if, r_ife, r_asg, r_name, r_op, r_un, r_nil, r_cons, r_lst2, r_tup2, r_lc, r_for, r_ilist, r_itup, r_istr, r_irng1, r_irng2, r_ienum, r_ienumS, wipe, r_cb, r_test, r_b, r_not, r_notV, r_andV, r_orV, r_isN, r_notN, r_m1, r_m0, r_fld, sFld, putF, r_par, r_sub, r_gtup, r_gnil, r_gcons, r_sl, r_nopart, r_part, r_bm, r_bm0, r_chain, r_call, r_callK, r_meth, r_prop, r_make, r_and, r_or, andT_t, andT_f, orT_t, orT_f, ifK_t, ifK_f, ifE_t, ifE_f, andK_t, andK_f, orK_t, orK_f, L2.start, List.map_cons, List.map_nil, List.length_cons, List.length_nil, List.replicate_succ, List.replicate_zero, List.cons_append, List.nil_append, List.getElem?_cons_succ, List.getElem?_cons_zero, List.set_cons_succ, List.set_cons_zero, Nat.reduceAdd, Nat.reduceSub, Nat.zero_add, decide_true, decide_false, Bool.not_true, Bool.not_false, if_true, if_false, rEq, rNe, scal_ii, scal_ss, scal_bb, scal_is, scal_si, scal_ns, scal_ni, scal_in, scal_sn, scal_nn, rI, rI0, rU, rIxLH, rIxTH, rLenH, rLenTH, rSetL, rCatN, rTupOfN, rLstOfN, rSlLN, rSlTN, CDiv, CPow, CMul, CDivW, rNeNil, rLenO, rSplitN, rRepN, r_replC, rMulS, r_methK, rRepTN, r_cmK, rCmpO, Bool.false_xor, Bool.true_xor, r_starT, r_starL, r_cm, r_cval, selK_t, selK_f, rAppend, rIsK, reduceCtorEq, upd_same, at0, at1, at2, at3, at4, at5, at6, at7, at8, at9, at10, at11, at12, at13, ix3_0, ix3_1, ix3_2, V.int.injEq, V.bl.injEq, V.str.injEq, V.ref.injEq, Option.some.injEq, HO.lst.injEq, HO.tup.injEq, HO.ins.injEq, List.cons.injEq, and_true, true_and, exists_eq_left, exists_eq_left', exists_and_left, exists_eq', exists_eq, and_assoc, N_law_names_of, c1, hf]
      intro f' H3 n3
      have h3 := n3.at_
      rw [cut_front, List.length_map, ← List.map_take] at h3
      have e : stepL b p = b.take (b.length - 1) := if_pos c1
      exact ⟨f', _, rfl, by rw [st, e]; exact h3, same_trans sm n3.same, by rw [st, e, List.length_take]; omega⟩
    · try simp only [cxK, r_lam, r_dnew, r_err, r_base, r_serr, r_var, r_c, r_seq, r_next, r_break, r_cont, r_drop, r_ret, r_retN, r_if, r_ife, r_asg, r_name, r_op, r_un, r_nil, r_cons, r_lst2, r_tup2, r_lc, r_for, r_ilist, r_itup, r_istr, r_irng1, r_irng2, r_ienum, r_ienumS, wipe, r_cb, r_test, r_b, r_not, r_notV, r_andV, r_orV, r_isN, r_notN, r_m1, r_m0, r_fld, sFld, putF, r_par, r_sub, r_gtup, r_gnil, r_gcons, r_sl, r_nopart, r_part, r_bm, r_bm0, r_chain, r_call, r_callK, r_meth, r_prop, r_make, r_and, r_or, andT_t, andT_f, orT_t, orT_f, ifK_t, ifK_f, ifE_t, ifE_f, andK_t, andK_f, orK_t, orK_f, L2.start, List.map_cons, List.map_nil, List.length_cons, List.length_nil, List.replicate_succ, List.replicate_zero, List.cons_append, List.nil_append, List.getElem?_cons_succ, List.getElem?_cons_zero, List.set_cons_succ, List.set_cons_zero, Nat.reduceAdd, Nat.reduceSub, Nat.zero_add, decide_true, decide_false, Bool.not_true, Bool.not_false, if_true, if_false, rEq, rNe, scal_ii, scal_ss, scal_bb, scal_is, scal_si, scal_ns, scal_ni, scal_in, scal_sn, scal_nn, rI, rI0, rU, rIxLH, rIxTH, rLenH, rLenTH, rSetL, rCatN, rTupOfN, rLstOfN, rSlLN, rSlTN, CDiv, CPow, CMul, CDivW, rNeNil, rLenO, rSplitN, rRepN, r_replC, rMulS, r_methK, rRepTN, r_cmK, rCmpO, Bool.false_xor, Bool.true_xor, r_starT, r_starL, r_cm, r_cval, selK_t, selK_f, rAppend, rIsK, reduceCtorEq, upd_same, at0, at1, at2, at3, at4, at5, at6, at7, at8, at9, at10, at11, at12, at13, ix3_0, ix3_1, ix3_2, V.int.injEq, V.bl.injEq, V.str.injEq, V.ref.injEq, Option.some.injEq, HO.lst.injEq, HO.tup.injEq, HO.ins.injEq, List.cons.injEq, and_true, true_and, exists_eq_left, exists_eq_left', exists_and_left, exists_eq', exists_eq, and_assoc, N_law_names_of, c1, hf]
      refine ⟨fits (by decide), fun p4 H4 n4 => ?_⟩
      refine ⟨p4, _, rfl, Or.inr (SqT.of n4.at_), rfl, rfl, ?_⟩
      have hin : inV (V.str p) [V.str (PySem.Str.ofString ""), V.str (PySem.Str.ofString ".")] = decide (p = "" ∨ p = ".") := in2 p
      rw [if_pos rfl, hin]
      by_cases c3 : p = "" ∨ p = "."
      · rw [decide_eq_true c3]
        try simp only [cxK, r_lam, r_dnew, r_err, r_base, r_serr, r_var, r_c, r_seq, r_next, r_break, r_cont, r_drop, r_ret, r_retN, r_if, r_ife, r_asg, r_name, r_op, r_un, r_nil, r_cons, r_lst2, r_tup2, r_lc, r_for, r_ilist, r_itup, r_istr, r_irng1, r_irng2, r_ienum, r_ienumS, wipe, r_cb, r_test, r_b, r_not, r_notV, r_andV, r_orV, r_isN, r_notN, r_m1, r_m0, r_fld, sFld, putF, r_par, r_sub, r_gtup, r_gnil, r_gcons, r_sl, r_nopart, r_part, r_bm, r_bm0, r_chain, r_call, r_callK, r_meth, r_prop, r_make, r_and, r_or, andT_t, andT_f, orT_t, orT_f, ifK_t, ifK_f, ifE_t, ifE_f, andK_t, andK_f, orK_t, orK_f, L2.start, List.map_cons, List.map_nil, List.length_cons, List.length_nil, List.replicate_succ, List.replicate_zero, List.cons_append, List.nil_append, List.getElem?_cons_succ, List.getElem?_cons_zero, List.set_cons_succ, List.set_cons_zero, Nat.reduceAdd, Nat.reduceSub, Nat.zero_add, decide_true, decide_false, Bool.not_true, Bool.not_false, if_true, if_false, rEq, rNe, scal_ii, scal_ss, scal_bb, scal_is, scal_si, scal_ns, scal_ni, scal_in, scal_sn, scal_nn, rI, rI0, rU, rIxLH, rIxTH, rLenH, rLenTH, rSetL, rCatN, rTupOfN, rLstOfN, rSlLN, rSlTN, CDiv, CPow, CMul, CDivW, rNeNil, rLenO, rSplitN, rRepN, r_replC, rMulS, r_methK, rRepTN, r_cmK, rCmpO, Bool.false_xor, Bool.true_xor, r_starT, r_starL, r_cm, r_cval, selK_t, selK_f, rAppend, rIsK, reduceCtorEq, upd_same, at0, at1, at2, at3, at4, at5, at6, at7, at8, at9, at10, at11, at12, at13, ix3_0, ix3_1, ix3_2, V.int.injEq, V.bl.injEq, V.str.injEq, V.ref.injEq, Option.some.injEq, HO.lst.injEq, HO.tup.injEq, HO.ins.injEq, List.cons.injEq, and_true, true_and, exists_eq_left, exists_eq_left', exists_and_left, exists_eq', exists_eq, and_assoc, N_law_names_of]
        have e : stepL b p = b := by
          show (if p = ".." then _ else if p = "" ∨ p = "." then _ else _) = _
          rw [if_neg c1, if_pos c3]
        exact ⟨f, _, rfl, by rw [st, e]; exact n4.old hf, same_trans sm n4.same, by rw [st, e]; omega⟩
      · rw [decide_eq_false c3]
        try simp only [cxK, r_lam, r_dnew, r_err, r_base, r_serr, r_var, r_c, r_seq, r_next, r_break, r_cont, r_drop, r_ret, r_retN, r_if, r_ife, r_asg, r_name, r_op, r_un, r_nil, r_cons, r_lst2, r_tup2, r_lc, r_for, r_ilist, r_itup, r_istr, r_irng1, r_irng2, r_ienum, r_ienumS, wipe, r_cb, r_test, r_b, r_not, r_notV, r_andV, r_orV, r_isN, r_notN, r_m1, r_m0, r_fld, sFld, putF, r_par, r_sub, r_gtup, r_gnil, r_gcons, r_sl, r_nopart, r_part, r_bm, r_bm0, r_chain, r_call, r_callK, r_meth, r_prop, r_make, r_and, r_or, andT_t, andT_f, orT_t, orT_f, ifK_t, ifK_f, ifE_t, ifE_f, andK_t, andK_f, orK_t, orK_f, L2.start, List.map_cons, List.map_nil, List.length_cons, List.length_nil, List.replicate_succ, List.replicate_zero, List.cons_append, List.nil_append, List.getElem?_cons_succ, List.getElem?_cons_zero, List.set_cons_succ, List.set_cons_zero, Nat.reduceAdd, Nat.reduceSub, Nat.zero_add, decide_true, decide_false, Bool.not_true, Bool.not_false, if_true, if_false, rEq, rNe, scal_ii, scal_ss, scal_bb, scal_is, scal_si, scal_ns, scal_ni, scal_in, scal_sn, scal_nn, rI, rI0, rU, rIxLH, rIxTH, rLenH, rLenTH, rSetL, rCatN, rTupOfN, rLstOfN, rSlLN, rSlTN, CDiv, CPow, CMul, CDivW, rNeNil, rLenO, rSplitN, rRepN, r_replC, rMulS, r_methK, rRepTN, r_cmK, rCmpO, Bool.false_xor, Bool.true_xor, r_starT, r_starL, r_cm, r_cval, selK_t, selK_f, rAppend, rIsK, reduceCtorEq, upd_same, at0, at1, at2, at3, at4, at5, at6, at7, at8, at9, at10, at11, at12, at13, ix3_0, ix3_1, ix3_2, V.int.injEq, V.bl.injEq, V.str.injEq, V.ref.injEq, Option.some.injEq, HO.lst.injEq, HO.tup.injEq, HO.ins.injEq, List.cons.injEq, and_true, true_and, exists_eq_left, exists_eq_left', exists_and_left, exists_eq', exists_eq, and_assoc, N_law_names_of]
        refine ⟨fits (by decide), fun p5 H5 n5 => ?_⟩
        have hf5 := n5.old (n4.old hf)
        have h55 := n5.at_
        try simp only [cxK, r_lam, r_dnew, r_err, r_base, r_serr, r_var, r_c, r_seq, r_next, r_break, r_cont, r_drop, r_ret, r_retN, r_if, r_ife, r_asg, r_name, r_op, r_un, r_nil, r_cons, r_lst2, r_tup2, r_lc, r_for, r_ilist, r_itup, r_istr, r_irng1, r_irng2, r_ienum, r_ienumS, wipe, r_cb, r_test, r_b, r_not, r_notV, r_andV, r_orV, r_isN, r_notN, r_m1, r_m0, r_fld, sFld, putF, r_par, r_sub, r_gtup, r_gnil, r_gcons, r_sl, r_nopart, r_part, r_bm, r_bm0, r_chain, r_call, r_callK, r_meth, r_prop, r_make, r_and, r_or, andT_t, andT_f, orT_t, orT_f, ifK_t, ifK_f, ifE_t, ifE_f, andK_t, andK_f, orK_t, orK_f, L2.start, List.map_cons, List.map_nil, List.length_cons, List.length_nil, List.replicate_succ, List.replicate_zero, List.cons_append, List.nil_append, List.getElem?_cons_succ, List.getElem?_cons_zero, List.set_cons_succ, List.set_cons_zero, Nat.reduceAdd, Nat.reduceSub, Nat.zero_add, decide_true, decide_false, Bool.not_true, Bool.not_false, if_true, if_false, rEq, rNe, scal_ii, scal_ss, scal_bb, scal_is, scal_si, scal_ns, scal_ni, scal_in, scal_sn, scal_nn, rI, rI0, rU, rIxLH, rIxTH, rLenH, rLenTH, rSetL, rCatN, rTupOfN, rLstOfN, rSlLN, rSlTN, CDiv, CPow, CMul, CDivW, rNeNil, rLenO, rSplitN, rRepN, r_replC, rMulS, r_methK, rRepTN, r_cmK, rCmpO, Bool.false_xor, Bool.true_xor, r_starT, r_starL, r_cm, r_cval, selK_t, selK_f, rAppend, rIsK, reduceCtorEq, upd_same, at0, at1, at2, at3, at4, at5, at6, at7, at8, at9, at10, at11, at12, at13, ix3_0, ix3_1, ix3_2, V.int.injEq, V.bl.injEq, V.str.injEq, V.ref.injEq, Option.some.injEq, HO.lst.injEq, HO.tup.injEq, HO.ins.injEq, List.cons.injEq, and_true, true_and, exists_eq_left, exists_eq_left', exists_and_left, exists_eq', exists_eq, and_assoc, N_law_names_of, hf5, h55]
        refine ⟨fits (by simp; omega), fun p6 H6 n6 => ?_⟩
        have e : stepL b p = b ++ [p] := by
          show (if p = ".." then _ else if p = "" ∨ p = "." then _ else _) = _
          rw [if_neg c1, if_neg c3]
        exact ⟨p6, _, rfl, by rw [st, e, n6.at_]; simp, same_trans sm (same_trans n4.same (same_trans n5.same n6.same)), by rw [st, e]; simp; omega⟩
  · rintro σ H2 ⟨f, v2, rfl, hf, sm, _⟩
    rw [List.length_map, List.take_length] at hf
    try simp only [cxK, r_lam, r_dnew, r_err, r_base, r_serr, r_var, r_c, r_seq, r_next, r_break, r_cont, r_drop, r_ret, r_retN, r_if, r_ife, r_asg, r_name, r_op, r_un, r_nil, r_cons, r_lst2, r_tup2, r_lc, r_for, r_ilist, r_itup, r_istr, r_irng1, r_irng2, r_ienum, r_ienumS, wipe, r_cb, r_test, r_b, r_not, r_notV, r_andV, r_orV, r_isN, r_notN, r_m1, r_m0, r_fld, sFld, putF, r_par, r_sub, r_gtup, r_gnil, r_gcons, r_sl, r_nopart, r_part, r_bm, r_bm0, r_chain, r_call, r_callK, r_meth, r_prop, r_make, r_and, r_or, andT_t, andT_f, orT_t, orT_f, ifK_t, ifK_f, ifE_t, ifE_f, andK_t, andK_f, orK_t, orK_f, L2.start, List.map_cons, List.map_nil, List.length_cons, List.length_nil, List.replicate_succ, List.replicate_zero, List.cons_append, List.nil_append, List.getElem?_cons_succ, List.getElem?_cons_zero, List.set_cons_succ, List.set_cons_zero, Nat.reduceAdd, Nat.reduceSub, Nat.zero_add, decide_true, decide_false, Bool.not_true, Bool.not_false, if_true, if_false, rEq, rNe, scal_ii, scal_ss, scal_bb, scal_is, scal_si, scal_ns, scal_ni, scal_in, scal_sn, scal_nn, rI, rI0, rU, rIxLH, rIxTH, rLenH, rLenTH, rSetL, rCatN, rTupOfN, rLstOfN, rSlLN, rSlTN, CDiv, CPow, CMul, CDivW, rNeNil, rLenO, rSplitN, rRepN, r_replC, rMulS, r_methK, rRepTN, r_cmK, rCmpO, Bool.false_xor, Bool.true_xor, r_starT, r_starL, r_cm, r_cval, selK_t, selK_f, rAppend, rIsK, reduceCtorEq, upd_same, at0, at1, at2, at3, at4, at5, at6, at7, at8, at9, at10, at11, at12, at13, ix3_0, ix3_1, ix3_2, V.int.injEq, V.bl.injEq, V.str.injEq, V.ref.injEq, Option.some.injEq, HO.lst.injEq, HO.tup.injEq, HO.ins.injEq, List.cons.injEq, and_true, true_and, exists_eq_left, exists_eq_left', exists_and_left, exists_eq', exists_eq, and_assoc, N_law_names_of]
    exact q f H2 sm hf
theorem stepL_good {b : List Str} {p : Str} (h : isNm p = true ∨ p = "" ∨ p = "." ∨ p = "..") : stepNm (some b) p = some (stepL b p) := by
  rcases h with h | h | h | h
  · rw [st_nm h]
    have h1 := nm_ne h
    have h2 : ¬ (p = "" ∨ p = ".") := fun e => by
      have z := st_same (b := b) e
      rw [st_nm h] at z
      have l := congrArg (fun o : Option (List Str) => (o.getD []).length) z
      simp at l
    show _ = some (if p = ".." then _ else if p = "" ∨ p = "." then _ else _)
    rw [if_neg h1, if_neg h2]
  · rw [st_same (.inl h)]
    show _ = some (if p = ".." then _ else if p = "" ∨ p = "." then _ else _)
    rw [if_neg (by rw [h, e0_eq, pt2_eq]; decide +kernel), if_pos (.inl h)]
  · rw [st_same (.inr h)]
    show _ = some (if p = ".." then _ else if p = "" ∨ p = "." then _ else _)
    rw [if_neg (by rw [h, pt1_eq, pt2_eq]; decide +kernel), if_pos (.inr h)]
  · subst h
    rw [st_up]
    show _ = some (if _ = _ then _ else _)
    rw [if_pos rfl]
theorem fold_good : ∀ (ps b : List Str), (∀ p ∈ ps, isNm p = true ∨ p = "" ∨ p = "." ∨ p = "..") → ps.foldl stepNm (some b) = some (ps.foldl stepL b)
  | [], _, _ => rfl
  | p :: r, b, h => by
    rw [List.foldl_cons, List.foldl_cons, stepL_good (h p List.mem_cons_self)]
    exact fold_good r _ fun x hx => h x (List.mem_cons_of_mem _ hx)
theorem step_bad {b : List Str} {p : Str} (h : isNm p = false ∧ p ≠ "" ∧ p ≠ "." ∧ p ≠ "..") : stepNm (some b) p = none := by
  show (if p = ".." then _ else if isNm p = true then _ else if p = "" ∨ p = "." then _ else _) = _
  rw [if_neg h.2.2.2, if_neg (by rw [h.1]; exact Bool.false_ne_true), if_neg (fun e => e.elim h.2.1 h.2.2.1)]
theorem fold_bad : ∀ (ps : List Str) (o : Option (List Str)), (∃ p ∈ ps, isNm p = false ∧ p ≠ "" ∧ p ≠ "." ∧ p ≠ "..") → ps.foldl stepNm o = none
  | [], _, h => by obtain ⟨p, hp, _⟩ := h; cases hp
  | q :: r, o, h => by
    rw [List.foldl_cons]
    obtain ⟨p, hp, k⟩ := h
    cases o with
    | none => exact step_none _
    | some b =>
      rcases List.mem_cons.mp hp with rfl | hp
      · rw [step_bad k]
        exact step_none _
      · exact fold_bad r _ ⟨p, hp, k⟩
/-- the text of parts -/
def wr (ps : List Str) (t : Str) : Str := PySem.Str.ofString "/" ++ Txt.join (PySem.Str.ofString "/") ps ++ t
def tails : List (Str × List Str) := [("", []), ("/", [""]), ("//", ["", ""]), ("/.", ["."])]
theorem tails_ok : ∀ t ∈ tails, tl t.1 = t.2.flatMap (fun q => 47 :: tl q) ∧ (∀ p ∈ t.2, 47 ∉ tl p ∧ (p = "" ∨ p = ".")) ∧ t.1.length ≤ 2 := by
  have f1 : PySem.Str.ofString "//" = ⟨#[47, 47]⟩ := by decide +kernel
  have f2 : PySem.Str.ofString "/." = ⟨#[47, 46]⟩ := by decide +kernel
  intro t ht
  simp only [tails, List.mem_cons, List.not_mem_nil, or_false] at ht
  rcases ht with rfl | rfl | rfl | rfl
  · rw [e0_eq]
    exact ⟨rfl, nofun, by decide⟩
  · rw [slash_eq, e0_eq]
    refine ⟨rfl, fun p hp => ?_, by decide⟩
    rw [List.mem_singleton.mp hp]
    exact ⟨nofun, .inl rfl⟩
  · rw [f1, e0_eq]
    refine ⟨rfl, fun p hp => ?_, by decide⟩
    have : p = ⟨#[]⟩ := by simpa using hp
    rw [this]
    exact ⟨nofun, .inl rfl⟩
  · rw [f2, pt1_eq]
    refine ⟨rfl, fun p hp => ?_, by decide⟩
    rw [List.mem_singleton.mp hp]
    exact ⟨by decide, .inr rfl⟩
theorem wr_tl {ps : List Str} {t : Str × List Str} (hne : ps ≠ []) (ht : t ∈ tails) : tl (wr ps t.1) = (ps ++ t.2).flatMap fun q => 47 :: tl q := by
  unfold wr
  rw [TL.tl_append, TL.tl_append, slash_eq, join_eq, tl_join, (tails_ok t ht).1, List.flatMap_append]
  cases ps with
  | nil => exact absurd rfl hne
  | cons p r =>
    rw [List.map_cons, joinL_flat, List.flatMap_cons, List.flatMap_map]
    rfl
theorem tl_len (z : Str) : (tl z).length = z.length := Array.length_toList
theorem tl_nil {z : Str} (h : tl z = []) : z = "" := TL.ext_tl (by rw [h, e0_eq] <;> rfl)
/-- what the fold makes of a path string -/
def fin12 (o : Option (List Str)) : Option (List Str) := match o with
  | some ns => if ns.length ≤ 12 then some ns else none
  | none => none
theorem namesIn_eq {z : Str} {ps : List Str} (hz : tl z = ps.flatMap fun q => 47 :: tl q) (hne : ps ≠ []) (hf : ∀ p ∈ ps, 47 ∉ tl p) : namesIn z = if 200 < z.length then none else fin12 (ps.foldl stepNm (some [])) := by
  have ez : z = Str.join slash (PySem.Str.ofString "" :: ps) := by
    refine TL.ext_tl ?_
    rw [tl_join, hz, List.map_cons, joinL_flat]
    have e1 : tl (PySem.Str.ofString "") = [] := by rw [e0_eq] <;> rfl
    rw [e1, List.flatMap_map]
    rfl
  have sp : Txt.split z slash = PySem.Str.ofString "" :: ps := by
    rw [ez, ← join_eq]
    refine split_join (y := slash) (s := 47) (S := []) rfl (by decide +kernel) (List.cons_ne_nil _ _) fun p hp => ?_
    rcases List.mem_cons.mp hp with rfl | hp
    · rw [e0_eq]
      exact nofun
    · exact hf p hp
  have hc : cutS z none (some 1) = "/" := by
    cases ps with
    | nil => exact absurd rfl hne
    | cons p r => exact cut1 (r := tl p ++ r.flatMap fun q => 47 :: tl q) (by rw [hz]; simp)
  have hn2 : namesOf [] (Txt.split z slash) = ps.foldl stepNm (some []) := by
    rw [sp]
    show List.foldl stepNm (stepNm (some []) "") ps = _
    rw [st_same (.inl rfl)]
  unfold namesIn
  rw [if_pos hc, hn2]
  rfl
theorem tl_cut (z : Str) (k : Nat) : tl (cutS z (some 1) none) = (tl z).drop 1 ∧ tl (cutS z (some 1) (some 2)) = ((tl z).drop 1).take 1 := by
  have l := tl_len z
  have u : ∀ hi : Option Int, tl (cutS z (some 1) hi) = ((tl z).drop (HT.sIx z.length 0 (some 1))).take (HT.sIx z.length z.length hi - HT.sIx z.length 0 (some 1)) := fun hi => rfl
  rw [u, u, HT.sIx_none, show (1 : Int) = ((1 : Nat) : Int) from rfl, show (2 : Int) = ((2 : Nat) : Int) from rfl, HT.sIx_nat, HT.sIx_nat]
  by_cases h : z.length = 0
  · have e : tl z = [] := List.length_eq_zero_iff.mp (l.trans h)
    rw [e]
    simp
  · rw [Nat.min_eq_left (show 1 ≤ z.length by omega)]
    refine ⟨List.take_of_length_le (by rw [List.length_drop]; omega), ?_⟩
    by_cases h2 : z.length = 1
    · have e : (tl z).drop 1 = [] := List.drop_of_length_le (by omega)
      rw [e]
      simp
    · rw [Nat.min_eq_left (show 2 ≤ z.length by omega)]
theorem cut_first {z : Str} {c : Nat} {cs : List Nat} (h : tl z = c :: cs) (n : c ≠ 47) : namesIn z = none := by
  have hc : cutS z none (some 1) ≠ "/" := fun e => by
    have hl : z.length = cs.length + 1 := by rw [← tl_len, h]; rfl
    have u : tl (PySem.Str.ofString "/") = ((tl z).drop (HT.sIx z.length 0 none)).take (HT.sIx z.length z.length (some 1) - HT.sIx z.length 0 none) := by
      rw [← e]
      rfl
    rw [HT.sIx_none, show (1 : Int) = ((1 : Nat) : Int) from rfl, HT.sIx_nat, hl, Nat.min_eq_left (by omega), h, slash_eq] at u
    have : (47 : Nat) = c := by
      have := congrArg List.head? u
      simpa [tl, slash] using this
    exact n this.symm
  unfold namesIn
  rw [if_neg hc]
  split <;> rfl
def okS (o : Option (List Str)) : Str := if o.isSome = true then "" else "path"
theorem okS_nn {o : Option (List Str)} : okS o = "" ↔ o.isSome = true := by
  unfold okS
  by_cases h : o.isSome = true
  · rw [if_pos h]
    exact ⟨fun _ => h, fun _ => rfl⟩
  · rw [if_neg h]
    exact ⟨fun e => absurd e (by decide), fun z => absurd z h⟩
def good (p : Str) : Prop := isNm p = true ∨ p = "" ∨ p = "." ∨ p = ".."
theorem good_len {p : Str} (h : good p) : (tl p).length ≤ 12 := by
  rw [tl_len]
  rcases h with h | rfl | rfl | rfl
  · exact (isNm_fits h).1
  · decide
  · decide
  · decide
/-- the law's word for the whole text -/
theorem whole_law {ps : List Str} {t : Str × List Str} (hne : ps ≠ []) (ht : t ∈ tails) (hf : ∀ p ∈ ps, 47 ∉ tl p) : namesIn (wr ps t.1) = if 200 < (wr ps t.1).length then none else fin12 (ps.foldl stepNm (some [])) := by
  have e := namesIn_eq (wr_tl hne ht) (fun z => hne (List.append_eq_nil_iff.mp z).1) fun p hp => (List.mem_append.mp hp).elim (hf p) fun h => ((tails_ok t ht).2.1 p h).1
  rw [e]
  have same : ∀ (l : List Str) (o : Option (List Str)), (∀ p ∈ l, p = "" ∨ p = ".") → l.foldl stepNm o = o := by
    intro l
    induction l with
    | nil => intros; rfl
    | cons q r ih =>
      intro o h
      rw [List.foldl_cons]
      have : stepNm o q = o := by
        cases o with
        | none => rfl
        | some b => exact st_same (h q List.mem_cons_self)
      rw [this]
      exact ih o fun x hx => h x (List.mem_cons_of_mem _ hx)
  rw [List.foldl_append, same _ _ fun p hp => ((tails_ok t ht).2.1 p hp).2]
/-- .. and for the text without its first sign -/
theorem tail_law {ps : List Str} {t : Str × List Str} (hne : ps ≠ []) (h16 : ps.length ≤ 16) (ht : t ∈ tails) (hf : ∀ p ∈ ps, 47 ∉ tl p) (hg : (∀ p ∈ ps, good p) ∨ ps.foldl stepNm (some []) = none) :
    okS (namesIn (cutS (wr ps t.1) (some 1) none)) = if cutS (wr ps t.1) (some 1) (some 2) = "/" ∧ okS (namesIn (wr ps t.1)) = "" then "" else "path" := by
  obtain ⟨z, ez⟩ : ∃ z, z = wr ps t.1 := ⟨_, rfl⟩
  have hw := whole_law hne ht hf
  have htl := wr_tl hne ht
  rw [← ez] at hw htl ⊢
  obtain ⟨c1, c2⟩ := tl_cut z 0
  cases ps with
  | nil => exact absurd rfl hne
  | cons p r =>
    have htl2 : tl z = 47 :: (tl p ++ (r ++ t.2).flatMap fun q => 47 :: tl q) := by rw [htl]; simp
    rw [htl2] at c1 c2
    rw [List.drop_succ_cons, List.drop_zero] at c1 c2
    have slash_no : ∀ {y : Str}, tl y ≠ [47] → y ≠ "/" := fun {y} h e => h (by rw [e, slash_eq] <;> rfl)
    cases hp : tl p with
    | nil =>
      rw [hp, List.nil_append] at c1 c2
      have pe : p = "" := tl_nil hp
      cases hr : r ++ t.2 with
      | nil =>
        rw [hr] at c1 c2
        have w0 : cutS z (some 1) none = "" := tl_nil c1
        have n12 : cutS z (some 1) (some 2) ≠ "/" := slash_no (by rw [c2]; simp)
        have nn : namesIn (PySem.Str.ofString "") = none := by
          rw [e0_eq]
          decide +kernel
        rw [w0, nn, if_neg (fun h => n12 h.1)]
        rfl
      | cons q rs =>
        have hfr : ∀ x ∈ r ++ t.2, 47 ∉ tl x := fun x hx => (List.mem_append.mp hx).elim (fun h => hf x (List.mem_cons_of_mem _ h)) fun h => ((tails_ok t ht).2.1 x h).1
        have n1 := namesIn_eq c1 (by rw [hr]; exact List.cons_ne_nil _ _) hfr
        have same : (r ++ t.2).foldl stepNm (some []) = (p :: r).foldl stepNm (some []) := by
          have z1 := namesIn_eq htl (by simp) fun x hx => (List.mem_append.mp hx).elim (hf x) fun h => ((tails_ok t ht).2.1 x h).1
          have s1 : ∀ (l : List Str) (o : Option (List Str)), (∀ p ∈ l, p = "" ∨ p = ".") → l.foldl stepNm o = o := by
            intro l
            induction l with
            | nil => intros; rfl
            | cons q r ih =>
              intro o h
              rw [List.foldl_cons]
              have : stepNm o q = o := by
                cases o with
                | none => rfl
                | some b => exact st_same (h q List.mem_cons_self)
              rw [this]
              exact ih o fun x hx => h x (List.mem_cons_of_mem _ hx)
          rw [List.foldl_append, s1 _ _ fun p hp => ((tails_ok t ht).2.1 p hp).2, List.foldl_cons, st_same (.inl pe)]
        rw [same] at n1
        have l1 : (cutS z (some 1) none).length + 1 = z.length := by rw [← tl_len, ← tl_len z, htl2, c1, hp]; simp
        have is12 : cutS z (some 1) (some 2) = "/" := TL.ext_tl (by rw [c2, hr, slash_eq]; rfl)
        by_cases h200 : 200 < z.length
        · rw [if_pos h200] at hw
          rw [hw, if_neg (fun h => absurd h.2 (by decide))]
          rcases hg with hg | hg
          · exfalso
            have b1 := flat_len (k := 13) (ns := r) (f := fun q => 47 :: tl q) fun x hx => by
              have := good_len (hg x (List.mem_cons_of_mem _ hx))
              simp only [List.length_cons]
              omega
            have b2 := (tails_ok t ht).2.2
            have b3 : (t.2.flatMap fun q => 47 :: tl q).length = t.1.length := by rw [← (tails_ok t ht).1, tl_len]
            have b4 : z.length = 1 + ((r.flatMap fun q => 47 :: tl q).length + (t.2.flatMap fun q => 47 :: tl q).length) := by
              rw [← tl_len z, htl2, hp, List.flatMap_append]
              simp
              omega
            have b5 : r.length ≤ 15 := by simpa using h16
            omega
          · rw [n1, hg]
            split <;> rfl
        · rw [if_neg h200] at hw
          rw [n1, if_neg (by omega), hw]
          by_cases ho : okS (fin12 ((p :: r).foldl stepNm (some []))) = ""
          · rw [if_pos ⟨is12, ho⟩, ho]
          · rw [if_neg (fun h => ho h.2)]
            unfold okS at ho ⊢
            by_cases hs : (fin12 ((p :: r).foldl stepNm (some []))).isSome = true
            · rw [if_pos hs] at ho
              exact absurd rfl ho
            · rw [if_neg hs]
    | cons c cs =>
      rw [hp] at c1 c2
      have cn : c ≠ 47 := fun e => hf p List.mem_cons_self (by rw [hp, e]; exact List.mem_cons_self)
      have n12 : cutS z (some 1) (some 2) ≠ "/" := slash_no (by
        rw [c2, List.cons_append, List.take_succ_cons]
        intro e
        exact cn (List.cons.inj e).1)
      rw [cut_first (z := cutS z (some 1) none) (c := c) (by rw [c1, List.cons_append]) cn, if_neg (fun h => n12 h.1)]
      rfl
theorem parseK {K : PySem.W.Frag} {H : Hp} {w : Str} {Q : VK} (hl : w.length ≤ 16000000) (h : ∀ H2, Same H H2 → Q (.str (okS (namesIn w))) H2) : spParse K [.ref (ga K "Path"), .str w] H (okK Q) (errK K Q) := by
  refine ⟨.str w, namesIn w, rfl, .inl ⟨w, rfl, hl, rfl⟩, fun ns p H1 er s1 _ _ _ => ?_, fun d fs H1 er s1 hd => errK.path hd fun H2 s2 => ?_⟩
  · have z := h H1 s1
    rw [er] at z
    exact z
  · have z := h H2 (same_trans s1 s2)
    rw [er] at z
    exact z
def PartPv (H : Hp) (a : Addr) (j : Int) (D : Addr) (i : Nat) (acc : List V) (H2 : Hp) : Prop := ∃ (ns : List Str) (j2 : Int), acc = ns.map V.str ∧ (∀ x ∈ ns, good x) ∧ j ≤ j2 ∧ j2 ≤ j + 1 + 2 * i ∧ Oth a H H2 ∧ Src H2 a j2 ∧ H D = none
def spRight (K : PySem.W.Frag) : Sp := fun vs H Q _ => ∃ (a : Addr) (j : Int), vs = [.ref a] ∧ Src H a j ∧ j < 10000000000 ∧ LamX.Tabs (TL lm K) H ∧ ∀ (j' : Int) (H' : Hp), j ≤ j' → j' ≤ j + 50 → OthN a H H' → LamX.Tabs (TL lm K) H' → Src H' a j' → Q (.bl true) H'
def spoils : List Str := ["A", "a b", "abcdefghijklm", " ", "a+", "\n", "....-...abcde", "a\t"].map PySem.Str.ofString
theorem spoils_ok : ∀ p ∈ spoils, 47 ∉ tl p ∧ (isNm p = false ∧ p ≠ ⟨#[]⟩ ∧ p ≠ pt1 ∧ p ≠ pt2) ∧ p.length ≤ 13 := by decide +kernel
theorem good_free {p : Str} (h : good p) : 47 ∉ tl p := by
  rcases h with h | rfl | rfl | rfl
  · exact nm_free h
  · rw [e0_eq]
    exact nofun
  · rw [pt1_eq]
    decide
  · rw [pt2_eq]
    decide
theorem tail_of {v : V} {i : Nat} (h : ([V.str (PySem.Str.ofString ""), V.str (PySem.Str.ofString ""), V.str (PySem.Str.ofString "/"), V.str (PySem.Str.ofString "//"), V.str (PySem.Str.ofString "/.")] : List V)[i]? = some v) : ∃ t ∈ tails, v = V.str t.1 := by
  have hm := List.mem_of_getElem? h
  simp only [List.mem_cons, List.not_mem_nil, or_false] at hm
  rcases hm with rfl | rfl | rfl | rfl | rfl
  · exact ⟨_, List.mem_cons_self, rfl⟩
  · exact ⟨_, List.mem_cons_self, rfl⟩
  · exact ⟨_, List.mem_cons_of_mem _ List.mem_cons_self, rfl⟩
  · exact ⟨_, List.mem_cons_of_mem _ (List.mem_cons_of_mem _ List.mem_cons_self), rfl⟩
  · exact ⟨_, List.mem_cons_of_mem _ (List.mem_cons_of_mem _ (List.mem_cons_of_mem _ List.mem_cons_self)), rfl⟩
theorem wr_len {ps : List Str} (hne : ps ≠ []) (lp : ps.length ≤ 16) (h : ∀ p ∈ ps, p.length ≤ 13) : (ps.map fun x => x.length).sum + ps.length ≤ 1000 ∧ (PySem.Str.ofString "/").length + (Txt.join (PySem.Str.ofString "/") ps).length ≤ 1000 ∧ ∀ t ∈ tails, (wr ps t.1).length ≤ 300 := by
  have h1 := sum_le ps 13 h
  have h2 : ps.length * 13 ≤ 16 * 13 := Nat.mul_le_mul_right _ lp
  have h3 : ∀ t ∈ tails, (wr ps t.1).length ≤ 300 := fun t ht => by
    rw [← tl_len, wr_tl hne ht, List.flatMap_append, List.length_append, ← (tails_ok t ht).1, tl_len]
    have b1 := flat_len (k := 14) (ns := ps) (f := fun q => 47 :: tl q) fun x hx => by
      have := h x hx
      have e := tl_len x
      simp only [List.length_cons]
      omega
    have b2 := (tails_ok t ht).2.2
    omega
  refine ⟨by omega, ?_, h3⟩
  have z := h3 ("", []) List.mem_cons_self
  unfold wr at z
  rw [len_app, len_app] at z
  omega
theorem ok_law_right (T : Tx fa fn K mg) (B : Tb lm K mg base) (dn : (lm.map fun d => tabX K d).Nodup) : Fn true P w K mg base 10 (aG "_law_right" K) [] (spRight K) := by
  obtain ⟨fd, F⟩ := F_law_right T
  refine fn_code F sc_law_right (fun vs H Q E h => ?_) (b_law_right F) (fun A outer s H vs Q E hr h => ⟨_, (pss_cons (ps_par (i := 1) (j := 2) (by rfl) sc_law_right.nd rfl rfl (by decide) rfl rfl (pa_cons (pe_lc (own := [("_law_turn", 8)]) (g := gName 8) (tt := tYes) rfl sc_law_right.nd (pi_range1 (by rfl) (T.free (T.c.fact 44 (f := fFree "range") rfl)) (pa_cons (pe_op op_add pe_int (pe_fn (ok_law_next T) (hr.mono (by decide)) rfl (g_law_next T) (k_law_next T) passD (pa_cons (pv 0) (pa_cons pe_int pa_nil)))) pa_nil)) (blkOk_by (own := [("_law_turn", 8)]) (N := N_law_right) (sc := defScope s_law_right) (by decide +kernel)) (fun _ _ _ _ _ => (pg_name (i := 8) sc_law_right.nd rfl (Or.inl rfl))) (fun _ _ _ _ _ => pts_nil) (fun _ _ _ _ _ => (pe_fn (ok_law_part T) (hr.mono (by decide)) rfl (g_law_part T) (k_law_part T) passL (pa_cons (pv 0) pa_nil)))) (pa_cons pe_bl pa_nil)) (by rfl))
 (pss_cons (ps_if (pt_cmpR op_eq (pe_fn (ok_law_next T) (hr.mono (by decide)) rfl (g_law_next T) (k_law_next T) passD (pa_cons (pv 0) (pa_cons pe_int pa_nil))) pe_int (nomark _))
 (pss_cons (ps_set (i := 3) sc_law_right.nd rfl (Or.inl rfl) (pe_fn (ok_law_pick T) (hr.mono (by decide)) rfl (g_law_pick T) (k_law_pick T) passD (pa_cons (pv 0) (pa_cons (pe_lst (pa_cons pe_str (pa_cons pe_str (pa_cons pe_str (pa_cons pe_str (pa_cons pe_str (pa_cons pe_str (pa_cons pe_str (pa_cons pe_str pa_nil))))))))) pa_nil))))
 (pss_cons (ps_asg (pv 3) (pg_sub (pv 1) (pe_fn (ok_law_next T) (hr.mono (by decide)) rfl (g_law_next T) (k_law_next T) passD (pa_cons (pv 0) (pa_cons (pe_callB call_len_lh (by rfl) (T.free (T.c.fact 0 (f := fFree "len") rfl)) (by decide +kernel) (pa_cons (pv 1) pa_nil)) pa_nil))) set_list))
 (pss_one (ps_set (i := 2) sc_law_right.nd rfl (Or.inl rfl) pe_bl))))
 pss_nil)
 (pss_cons (ps_set (i := 7) sc_law_right.nd rfl (Or.inr rfl) (pe_op op_add_str (pe_op op_add_str pe_str (pe_join pe_str (pv 1))) (pe_fn (ok_law_pick T) (hr.mono (by decide)) rfl (g_law_pick T) (k_law_pick T) passD (pa_cons (pv 0) (pa_cons (pe_lst (pa_cons pe_str (pa_cons pe_str (pa_cons pe_str (pa_cons pe_str (pa_cons pe_str pa_nil)))))) pa_nil)))))
 (pss_cons (ps_set (i := 4) sc_law_right.nd rfl (Or.inl rfl) (pe_fn (ok_law_names_of T) (hr.mono (by decide)) rfl (g_law_names_of T) (k_law_names_of T) passD (pa_cons (pv 1) pa_nil)))
 (pss_cons (ps_set (i := 5) sc_law_right.nd rfl (Or.inl rfl) (pe_ifExp (PW.pt (pw_and (pt_val (pv 2)) (pw_and (pt_cmpR op_le (pe_callB call_len_lh (by rfl) (T.free (T.c.fact 0 (f := fFree "len") rfl)) (by decide +kernel) (pa_cons (pv 4) pa_nil)) pe_int (nomark _)) (pw_and1 (pt_cmpR op_le (pe_callB call_len_str (by rfl) (T.free (T.c.fact 0 (f := fFree "len") rfl)) (by decide +kernel) (pa_cons (pv 7) pa_nil)) pe_int (nomark _)))))) pe_str pe_str))
 (pss_cons (ps_if (pt_cmpR op_ne (pe_inv (k := 5) T B dn (d := d_law_right) (by simp [lm]) rfl rfl rfl (hr.r.mono (by decide)) (LamX.lamS_by (sc := defScope s_law_right) (by decide +kernel)) rfl (fun _ _ _ _ _ => rfl) (fun A outer s H E f c hr0 => (have hr := (Rm.mk hr0 (fun e => nomatch e) : Rm false _ _); (pe_cm (pe_glob (v := .ref (ga _ "Path")) rfl (T.glo (T.c.fact 36 (f := fGlo "Path") rfl)) rfl) (read_ok (T.c.fact 38 (f := fRead "Path") rfl)) (cmet_ok (T.c.fact 39 (f := fCMet "Path" "parse") rfl)) (ok_Path_parse T) (hr.mono (by decide)) passLam (pa_cons (pv 7) pa_nil))))) (pv 5) (nomark _))
 (pss_one (ps_ret pe_bl))
 pss_nil)
 (pss_cons (ps_if (pt_cmpR op_eq (pv 5) pe_str (nomark _))
 (pss_cons (ps_set (i := 6) sc_law_right.nd rfl (Or.inl rfl) (pe_cm (pe_glob (v := .ref (ga _ "Path")) rfl (T.glo (T.c.fact 36 (f := fGlo "Path") rfl)) rfl) (read_ok (T.c.fact 38 (f := fRead "Path") rfl)) (cmet_ok (T.c.fact 39 (f := fCMet "Path" "parse") rfl)) (ok_Path_parse T) (hr.mono (by decide)) passD (pa_cons (pv 7) pa_nil)))
 (pss_one (ps_if (PW.pt (pw_or (pt_cmpR op_ne (pe_callB (call_repr hr) (by rfl) (T.free (T.c.fact 42 (f := fFree "repr") rfl)) (by decide +kernel) (pa_cons (pe_fld (pv 6) rfl) pa_nil)) (pe_callB (call_repr hr) (by rfl) (T.free (T.c.fact 42 (f := fFree "repr") rfl)) (by decide +kernel) (pa_cons (pe_callTy call_tuple_n (by rfl) (T.free (T.c.fact 43 (f := fFree "tuple") rfl)) (by decide +kernel) (pa_cons (pv 4) pa_nil)) pa_nil)) (nomark _)) (pw_or1 (pt_cmpR (op_neO (ne_ok (T.c.fact 40 (f := fNe "Path") rfl)) (meth_ok (T.c.fact 41 (f := fMeth "Path" "__eq__") rfl)) (ok_Path_eq T) (hr.mono (by decide)) (Nat.lt_of_le_of_lt (Nat.add_le_add_left (by decide) _) hr.r.units) passD) (pe_cmK0 (pe_glob (v := .ref (ga _ "Path")) rfl (T.glo (T.c.fact 36 (f := fGlo "Path") rfl)) rfl) (read_ok (T.c.fact 38 (f := fRead "Path") rfl)) (cmet_ok (T.c.fact 39 (f := fCMet "Path" "parse") rfl)) (ok_Path_parse_string T) (hr.mono (by decide)) passD (pk_cons (pv 7) pk_nil)) (pv 6) (nomark _)))))
 (pss_one (ps_ret pe_bl))
 pss_nil)))
 pss_nil)
 (pss_one (ps_ret (pe_cmpR op_eq (pe_inv (k := 5) T B dn (d := d_law_right) (by simp [lm]) rfl rfl rfl (hr.r.mono (by decide)) (LamX.lamS_by (sc := defScope s_law_right) (by decide +kernel)) rfl (fun _ _ _ _ _ => rfl) (fun A outer s H E f c hr0 => (have hr := (Rm.mk hr0 (fun e => nomatch e) : Rm false _ _); (pe_cm (pe_glob (v := .ref (ga _ "Path")) rfl (T.glo (T.c.fact 36 (f := fGlo "Path") rfl)) rfl) (read_ok (T.c.fact 38 (f := fRead "Path") rfl)) (cmet_ok (T.c.fact 39 (f := fCMet "Path" "parse") rfl)) (ok_Path_parse T) (hr.mono (by decide)) passLam (pa_cons (pe_slice sl_str (pv 7) (po_some pe_int) po_none) pa_nil))))) (pe_ifExp (PW.pt (pw_and (pt_cmpR op_eq (pe_slice sl_str (pv 7) (po_some pe_int) (po_some pe_int)) pe_str (nomark _)) (pw_and1 (pt_cmpR op_eq (pv 5) pe_str (nomark _))))) pe_str pe_str) (nomark _))))))))))), ?_⟩)
  · first | (obtain ⟨_, e, _⟩ := h; subst e; rfl) | (obtain ⟨_, _, e, _⟩ := h; subst e; rfl) | (obtain ⟨_, _, _, e, _⟩ := h; subst e; rfl) | (obtain ⟨_, _, _, _, e, _⟩ := h; subst e; rfl) | (obtain ⟨_, _, _, _, _, e, _⟩ := h; subst e; rfl) | (obtain ⟨_, _, _, _, _, _, e, _⟩ := h; subst e; rfl) | (obtain ⟨_, _, _, _, _, _, _, e, _⟩ := h; subst e; rfl) | (obtain ⟨_, _, _, _, _, _, _, _, e, _⟩ := h; subst e; rfl) | (obtain ⟨_, _, _, _, _, _, _, _, _, e, _⟩ := h; subst e; rfl) | (obtain ⟨_, _, _, _, _, _, _, _, _, _, e, _⟩ := h; subst e; rfl) | (obtain ⟨_, _, _, _, _, _, _, _, _, _, _, e, _⟩ := h; subst e; rfl)
  obtain ⟨a, j, rfl, hs, j1, ht, q⟩ := h
  try simp only [cxK, r_lam, r_dnew, r_err, r_base, r_serr, r_var, r_c, r_seq, r_next, r_break, r_cont, r_drop, r_ret, r_retN, r_if, r_ife, r_asg, r_name, r_op, r_un, r_nil, r_cons, r_lst2, r_tup2, r_lc, r_for, r_ilist, r_itup, r_istr, r_irng1, r_irng2, r_ienum, r_ienumS, wipe, r_cb, r_test, r_b, r_not, r_notV, r_andV, r_orV, r_isN, r_notN, r_m1, r_m0, r_fld, sFld, putF, r_par, r_sub, r_gtup, r_gnil, r_gcons, r_sl, r_nopart, r_part, r_bm, r_bm0, r_chain, r_call, r_callK, r_meth, r_prop, r_make, r_and, r_or, andT_t, andT_f, orT_t, orT_f, ifK_t, ifK_f, ifE_t, ifE_f, andK_t, andK_f, orK_t, orK_f, L2.start, List.map_cons, List.map_nil, List.length_cons, List.length_nil, List.replicate_succ, List.replicate_zero, List.cons_append, List.nil_append, List.getElem?_cons_succ, List.getElem?_cons_zero, List.set_cons_succ, List.set_cons_zero, Nat.reduceAdd, Nat.reduceSub, Nat.zero_add, decide_true, decide_false, Bool.not_true, Bool.not_false, if_true, if_false, rEq, rNe, scal_ii, scal_ss, scal_bb, scal_is, scal_si, scal_ns, scal_ni, scal_in, scal_sn, scal_nn, rI, rI0, rU, rIxLH, rIxTH, rLenH, rLenTH, rSetL, rCatN, rTupOfN, rLstOfN, rSlLN, rSlTN, CDiv, CPow, CMul, CDivW, rNeNil, rLenO, rSplitN, rRepN, r_replC, rMulS, r_methK, rRepTN, r_cmK, rCmpO, Bool.false_xor, Bool.true_xor, r_starT, r_starL, r_cm, r_cval, selK_t, selK_f, rAppend, rIsK, reduceCtorEq, upd_same, at0, at1, at2, at3, at4, at5, at6, at7, at8, at9, at10, at11, at12, at13, ix3_0, ix3_1, ix3_2, V.int.injEq, V.bl.injEq, V.str.injEq, V.ref.injEq, Option.some.injEq, HO.lst.injEq, HO.tup.injEq, HO.ins.injEq, List.cons.injEq, and_true, true_and, exists_eq_left, exists_eq_left', exists_and_left, exists_eq', exists_eq, and_assoc, N_law_right]
  refine ⟨a, 16, j, rfl, by decide, by decide, hs, by omega, fun r j2 H1 r0 r1 j3 j4 o1 hs1 => ?_⟩
  try simp only [cxK, r_lam, r_dnew, r_err, r_base, r_serr, r_var, r_c, r_seq, r_next, r_break, r_cont, r_drop, r_ret, r_retN, r_if, r_ife, r_asg, r_name, r_op, r_un, r_nil, r_cons, r_lst2, r_tup2, r_lc, r_for, r_ilist, r_itup, r_istr, r_irng1, r_irng2, r_ienum, r_ienumS, wipe, r_cb, r_test, r_b, r_not, r_notV, r_andV, r_orV, r_isN, r_notN, r_m1, r_m0, r_fld, sFld, putF, r_par, r_sub, r_gtup, r_gnil, r_gcons, r_sl, r_nopart, r_part, r_bm, r_bm0, r_chain, r_call, r_callK, r_meth, r_prop, r_make, r_and, r_or, andT_t, andT_f, orT_t, orT_f, ifK_t, ifK_f, ifE_t, ifE_f, andK_t, andK_f, orK_t, orK_f, L2.start, List.map_cons, List.map_nil, List.length_cons, List.length_nil, List.replicate_succ, List.replicate_zero, List.cons_append, List.nil_append, List.getElem?_cons_succ, List.getElem?_cons_zero, List.set_cons_succ, List.set_cons_zero, Nat.reduceAdd, Nat.reduceSub, Nat.zero_add, decide_true, decide_false, Bool.not_true, Bool.not_false, if_true, if_false, rEq, rNe, scal_ii, scal_ss, scal_bb, scal_is, scal_si, scal_ns, scal_ni, scal_in, scal_sn, scal_nn, rI, rI0, rU, rIxLH, rIxTH, rLenH, rLenTH, rSetL, rCatN, rTupOfN, rLstOfN, rSlLN, rSlTN, CDiv, CPow, CMul, CDivW, rNeNil, rLenO, rSplitN, rRepN, r_replC, rMulS, r_methK, rRepTN, r_cmK, rCmpO, Bool.false_xor, Bool.true_xor, r_starT, r_starL, r_cm, r_cval, selK_t, selK_f, rAppend, rIsK, reduceCtorEq, upd_same, at0, at1, at2, at3, at4, at5, at6, at7, at8, at9, at10, at11, at12, at13, ix3_0, ix3_1, ix3_2, V.int.injEq, V.bl.injEq, V.str.injEq, V.ref.injEq, Option.some.injEq, HO.lst.injEq, HO.tup.injEq, HO.ins.injEq, List.cons.injEq, and_true, true_and, exists_eq_left, exists_eq_left', exists_and_left, exists_eq', exists_eq, and_assoc, N_law_right]
  refine ⟨by omega, by omega, ?_⟩
  refine lcK_rng (PartPv H a j) ?_ ?_ ?_
  · intro D H0 n0
    refine ⟨[], j2, rfl, nofun, j3, by simpa using j4, Oth.new o1 n0, hs1.same n0.same, ?_⟩
    cases e : H D with
    | none => rfl
    | some o =>
      have hD := o1 D o (fun z => hs1.ne n0.1 z.symm) e
      rw [n0.1] at hD
      cases hD
  · rintro D i acc H2 nD hi hD hl ⟨ns, j4', rfl, hN, j5, j6, o2, hs2, nD0⟩
    try simp only [cxK, r_lam, r_dnew, r_err, r_base, r_serr, r_var, r_c, r_seq, r_next, r_break, r_cont, r_drop, r_ret, r_retN, r_if, r_ife, r_asg, r_name, r_op, r_un, r_nil, r_cons, r_lst2, r_tup2, r_lc, r_for, r_ilist, r_itup, r_istr, r_irng1, r_irng2, r_ienum, r_ienumS, wipe, r_cb, r_test, r_b, r_not, r_notV, r_andV, r_orV, r_isN, r_notN, r_m1, r_m0, r_fld, sFld, putF, r_par, r_sub, r_gtup, r_gnil, r_gcons, r_sl, r_nopart, r_part, r_bm, r_bm0, r_chain, r_call, r_callK, r_meth, r_prop, r_make, r_and, r_or, andT_t, andT_f, orT_t, orT_f, ifK_t, ifK_f, ifE_t, ifE_f, andK_t, andK_f, orK_t, orK_f, L2.start, List.map_cons, List.map_nil, List.length_cons, List.length_nil, List.replicate_succ, List.replicate_zero, List.cons_append, List.nil_append, List.getElem?_cons_succ, List.getElem?_cons_zero, List.set_cons_succ, List.set_cons_zero, Nat.reduceAdd, Nat.reduceSub, Nat.zero_add, decide_true, decide_false, Bool.not_true, Bool.not_false, if_true, if_false, rEq, rNe, scal_ii, scal_ss, scal_bb, scal_is, scal_si, scal_ns, scal_ni, scal_in, scal_sn, scal_nn, rI, rI0, rU, rIxLH, rIxTH, rLenH, rLenTH, rSetL, rCatN, rTupOfN, rLstOfN, rSlLN, rSlTN, CDiv, CPow, CMul, CDivW, rNeNil, rLenO, rSplitN, rRepN, r_replC, rMulS, r_methK, rRepTN, r_cmK, rCmpO, Bool.false_xor, Bool.true_xor, r_starT, r_starL, r_cm, r_cval, selK_t, selK_f, rAppend, rIsK, reduceCtorEq, upd_same, at0, at1, at2, at3, at4, at5, at6, at7, at8, at9, at10, at11, at12, at13, ix3_0, ix3_1, ix3_2, V.int.injEq, V.bl.injEq, V.str.injEq, V.ref.injEq, Option.some.injEq, HO.lst.injEq, HO.tup.injEq, HO.ins.injEq, List.cons.injEq, and_true, true_and, exists_eq_left, exists_eq_left', exists_and_left, exists_eq', exists_eq, and_assoc, N_law_right]
    have aD : D ≠ a := src_ne hs2 hD
    have hi2 : i < 16 := by omega
    refine ⟨a, j4', rfl, hs2, by omega, fun z j7 H3 hz j8 j9 o3 hs3 => ?_⟩
    have hD3 := o3 D _ aD hD
    refine addK_mk hD3 hl (by omega) ⟨ns ++ [z], j7, by simp, fun x hx => ?_, by omega, by omega, Oth.fresh (Oth.trans o2 o3) nD0, hs3.upd (.inr (Ne.symm aD)), nD0⟩
    rcases List.mem_append.mp hx with h | h
    · exact hN x h
    · rw [List.mem_singleton.mp h]
      exact hz
  · rintro D acc H2 nD hD hl ⟨ps, j5, rfl, hN, j6, j7, o2, hs2, nD0⟩
    have lps : ps.length = (1 + r).toNat := by simpa using hl
    try simp only [cxK, r_lam, r_dnew, r_err, r_base, r_serr, r_var, r_c, r_seq, r_next, r_break, r_cont, r_drop, r_ret, r_retN, r_if, r_ife, r_asg, r_name, r_op, r_un, r_nil, r_cons, r_lst2, r_tup2, r_lc, r_for, r_ilist, r_itup, r_istr, r_irng1, r_irng2, r_ienum, r_ienumS, wipe, r_cb, r_test, r_b, r_not, r_notV, r_andV, r_orV, r_isN, r_notN, r_m1, r_m0, r_fld, sFld, putF, r_par, r_sub, r_gtup, r_gnil, r_gcons, r_sl, r_nopart, r_part, r_bm, r_bm0, r_chain, r_call, r_callK, r_meth, r_prop, r_make, r_and, r_or, andT_t, andT_f, orT_t, orT_f, ifK_t, ifK_f, ifE_t, ifE_f, andK_t, andK_f, orK_t, orK_f, L2.start, List.map_cons, List.map_nil, List.length_cons, List.length_nil, List.replicate_succ, List.replicate_zero, List.cons_append, List.nil_append, List.getElem?_cons_succ, List.getElem?_cons_zero, List.set_cons_succ, List.set_cons_zero, Nat.reduceAdd, Nat.reduceSub, Nat.zero_add, decide_true, decide_false, Bool.not_true, Bool.not_false, if_true, if_false, rEq, rNe, scal_ii, scal_ss, scal_bb, scal_is, scal_si, scal_ns, scal_ni, scal_in, scal_sn, scal_nn, rI, rI0, rU, rIxLH, rIxTH, rLenH, rLenTH, rSetL, rCatN, rTupOfN, rLstOfN, rSlLN, rSlTN, CDiv, CPow, CMul, CDivW, rNeNil, rLenO, rSplitN, rRepN, r_replC, rMulS, r_methK, rRepTN, r_cmK, rCmpO, Bool.false_xor, Bool.true_xor, r_starT, r_starL, r_cm, r_cval, selK_t, selK_f, rAppend, rIsK, reduceCtorEq, upd_same, at0, at1, at2, at3, at4, at5, at6, at7, at8, at9, at10, at11, at12, at13, ix3_0, ix3_1, ix3_2, V.int.injEq, V.bl.injEq, V.str.injEq, V.ref.injEq, Option.some.injEq, HO.lst.injEq, HO.tup.injEq, HO.ins.injEq, List.cons.injEq, and_true, true_and, exists_eq_left, exists_eq_left', exists_and_left, exists_eq', exists_eq, and_assoc, N_law_right]
    have hD3 := hD
    have hs3 := hs2
    have aD : D ≠ a := src_ne hs2 hD
    refine ⟨a, 4, j5, rfl, by decide, by decide, hs3, by omega, fun r4 j8 H4 _ _ j9 j10 o4 hs4 => ?_⟩
    have hD4 := o4 _ _ aD hD3
    have o04 : Oth a H H4 := Oth.trans o2 o4
    have pne : ps ≠ [] := fun e => by rw [e] at lps; simp at lps; omega
    by_cases c4 : r4 = 0
    · try simp only [cxK, r_lam, r_dnew, r_err, r_base, r_serr, r_var, r_c, r_seq, r_next, r_break, r_cont, r_drop, r_ret, r_retN, r_if, r_ife, r_asg, r_name, r_op, r_un, r_nil, r_cons, r_lst2, r_tup2, r_lc, r_for, r_ilist, r_itup, r_istr, r_irng1, r_irng2, r_ienum, r_ienumS, wipe, r_cb, r_test, r_b, r_not, r_notV, r_andV, r_orV, r_isN, r_notN, r_m1, r_m0, r_fld, sFld, putF, r_par, r_sub, r_gtup, r_gnil, r_gcons, r_sl, r_nopart, r_part, r_bm, r_bm0, r_chain, r_call, r_callK, r_meth, r_prop, r_make, r_and, r_or, andT_t, andT_f, orT_t, orT_f, ifK_t, ifK_f, ifE_t, ifE_f, andK_t, andK_f, orK_t, orK_f, L2.start, List.map_cons, List.map_nil, List.length_cons, List.length_nil, List.replicate_succ, List.replicate_zero, List.cons_append, List.nil_append, List.getElem?_cons_succ, List.getElem?_cons_zero, List.set_cons_succ, List.set_cons_zero, Nat.reduceAdd, Nat.reduceSub, Nat.zero_add, decide_true, decide_false, Bool.not_true, Bool.not_false, if_true, if_false, rEq, rNe, scal_ii, scal_ss, scal_bb, scal_is, scal_si, scal_ns, scal_ni, scal_in, scal_sn, scal_nn, rI, rI0, rU, rIxLH, rIxTH, rLenH, rLenTH, rSetL, rCatN, rTupOfN, rLstOfN, rSlLN, rSlTN, CDiv, CPow, CMul, CDivW, rNeNil, rLenO, rSplitN, rRepN, r_replC, rMulS, r_methK, rRepTN, r_cmK, rCmpO, Bool.false_xor, Bool.true_xor, r_starT, r_starL, r_cm, r_cval, selK_t, selK_f, rAppend, rIsK, reduceCtorEq, upd_same, at0, at1, at2, at3, at4, at5, at6, at7, at8, at9, at10, at11, at12, at13, ix3_0, ix3_1, ix3_2, V.int.injEq, V.bl.injEq, V.str.injEq, V.ref.injEq, Option.some.injEq, HO.lst.injEq, HO.tup.injEq, HO.ins.injEq, List.cons.injEq, and_true, true_and, exists_eq_left, exists_eq_left', exists_and_left, exists_eq', exists_eq, and_assoc, N_law_right, c4]
      refine ⟨fits (by decide), fun l6 H6 n6 => ?_⟩
      refine ⟨a, l6, j8, _, rfl, fun e => hs4.ne n6.1 e.symm, n6.at_, by simp, by simp, hs4.same n6.same, by omega, fun i7 v7 j11 H7 hv7 j12 j13 o7 hs7 => ?_⟩
      obtain ⟨sp, hsp, rfl⟩ : ∃ sp ∈ spoils, v7 = V.str sp := by
        have hm := List.mem_of_getElem? hv7
        obtain ⟨sp, h1, h2⟩ := List.mem_map.mp (show v7 ∈ spoils.map V.str from hm)
        exact ⟨sp, h1, h2.symm⟩
      have hD7 := o7 _ _ aD (n6.old hD4)
      try simp only [cxK, r_lam, r_dnew, r_err, r_base, r_serr, r_var, r_c, r_seq, r_next, r_break, r_cont, r_drop, r_ret, r_retN, r_if, r_ife, r_asg, r_name, r_op, r_un, r_nil, r_cons, r_lst2, r_tup2, r_lc, r_for, r_ilist, r_itup, r_istr, r_irng1, r_irng2, r_ienum, r_ienumS, wipe, r_cb, r_test, r_b, r_not, r_notV, r_andV, r_orV, r_isN, r_notN, r_m1, r_m0, r_fld, sFld, putF, r_par, r_sub, r_gtup, r_gnil, r_gcons, r_sl, r_nopart, r_part, r_bm, r_bm0, r_chain, r_call, r_callK, r_meth, r_prop, r_make, r_and, r_or, andT_t, andT_f, orT_t, orT_f, ifK_t, ifK_f, ifE_t, ifE_f, andK_t, andK_f, orK_t, orK_f, L2.start, List.map_cons, List.map_nil, List.length_cons, List.length_nil, List.replicate_succ, List.replicate_zero, List.cons_append, List.nil_append, List.getElem?_cons_succ, List.getElem?_cons_zero, List.set_cons_succ, List.set_cons_zero, Nat.reduceAdd, Nat.reduceSub, Nat.zero_add, decide_true, decide_false, Bool.not_true, Bool.not_false, if_true, if_false, rEq, rNe, scal_ii, scal_ss, scal_bb, scal_is, scal_si, scal_ns, scal_ni, scal_in, scal_sn, scal_nn, rI, rI0, rU, rIxLH, rIxTH, rLenH, rLenTH, rSetL, rCatN, rTupOfN, rLstOfN, rSlLN, rSlTN, CDiv, CPow, CMul, CDivW, rNeNil, rLenO, rSplitN, rRepN, r_replC, rMulS, r_methK, rRepTN, r_cmK, rCmpO, Bool.false_xor, Bool.true_xor, r_starT, r_starL, r_cm, r_cval, selK_t, selK_f, rAppend, rIsK, reduceCtorEq, upd_same, at0, at1, at2, at3, at4, at5, at6, at7, at8, at9, at10, at11, at12, at13, ix3_0, ix3_1, ix3_2, V.int.injEq, V.bl.injEq, V.str.injEq, V.ref.injEq, Option.some.injEq, HO.lst.injEq, HO.tup.injEq, HO.ins.injEq, List.cons.injEq, and_true, true_and, exists_eq_left, exists_eq_left', exists_and_left, exists_eq', exists_eq, and_assoc, N_law_right, hD7]
      refine ⟨a, ps.length, j11, by rw [List.length_map], by omega, by omega, hs7, by omega, fun r8 j14 H8 r9 r10 j15 j16 o8 hs8 => ?_⟩
      obtain ⟨m, rfl⟩ : ∃ m : Nat, r8 = (m : Int) := ⟨r8.toNat, by omega⟩
      have hm : m < ps.length := by omega
      have hD8 := o8 _ _ aD hD7
      have hix : ixN (ps.map V.str).length (m : Int) = some m := by
        have hm2 : m < (ps.map V.str).length := by rw [List.length_map]; exact hm
        unfold ixN
        rw [if_pos (by omega), if_pos (by omega), Int.toNat_natCast]
      refine ⟨_, _, rfl, hD8, m, hix, ?_⟩
      obtain ⟨ps', eps⟩ : ∃ ps', ps' = ps.set m sp := ⟨_, rfl⟩
      have hDb : upd H8 D (.lst ((ps.map V.str).set m (V.str sp))) D = some (.lst (ps'.map V.str)) := by
        rw [upd_same, eps, List.map_set]
      have hsb : Src (upd H8 D (.lst ((ps.map V.str).set m (V.str sp)))) a j14 := hs8.upd (.inr (Ne.symm aD))
      have ob : Oth a H (upd H8 D (.lst ((ps.map V.str).set m (V.str sp)))) := Oth.fresh (Oth.trans o04 (Oth.trans (Oth.of n6.same) (Oth.trans o7 o8))) nD0
      obtain ⟨HB, eHB⟩ : ∃ HB, HB = upd H8 D (.lst ((ps.map V.str).set m (V.str sp))) := ⟨_, rfl⟩
      rw [← eHB] at hDb hsb ob ⊢
      obtain ⟨s1, s2, s3'⟩ := spoils_ok sp hsp
      have memS : ∀ p ∈ ps', p = sp ∨ p ∈ ps := fun p hp => by
        rw [eps] at hp
        exact (List.mem_or_eq_of_mem_set hp).symm
      have pne' : ps' ≠ [] := fun e => by
        have := congrArg List.length (eps.symm.trans e)
        rw [List.length_set, List.length_nil] at this
        omega
      have lp : ps'.length ≤ 16 := by rw [eps, List.length_set]; omega
      have plen : ∀ p ∈ ps', p.length ≤ 13 := fun p hp => (memS p hp).elim (fun e => by rw [e]; exact s3') fun h => by have := good_len (hN p h); rw [tl_len] at this; omega
      have pf : ∀ p ∈ ps', 47 ∉ tl p := fun p hp => (memS p hp).elim (fun e => by rw [e]; exact s1) fun h => good_free (hN p h)
      have hb : ps'.foldl stepNm (some []) = none := fold_bad _ _ ⟨sp, by rw [eps]; exact List.mem_iff_getElem.mpr ⟨m, by rw [List.length_set]; exact hm, by simp⟩, s2.1, by rw [e0_eq]; exact s2.2.1, by rw [pt1_eq]; exact s2.2.2.1, by rw [pt2_eq]; exact s2.2.2.2⟩
      have hg : (∀ p ∈ ps', good p) ∨ ps'.foldl stepNm (some []) = none := .inr hb
      have pl1 : ∀ p ∈ ps', p.length ≤ 13 := plen
      obtain ⟨hw1, hw2, hw3⟩ := wr_len (ps := ps') pne' lp pl1
      refine ⟨ps', Or.inl (SqL.of hDb), by rw [show (PySem.Str.ofString "/").length = 1 by decide]; omega, fits (by omega), fits (by decide), fun pt G1 g1 => ?_⟩
      refine ⟨a, pt, j14, _, rfl, fun e => hsb.ne g1.1 e.symm, g1.at_, by simp, by simp, hsb.same g1.same, by omega, fun i1 v1 jc G2 hv jc1 jc2 oc hsc => ?_⟩
      obtain ⟨t, ht1, rfl⟩ := tail_of hv
      have hD2 := oc _ _ aD (g1.old hDb)
      obtain ⟨w, ew⟩ : ∃ w, w = PySem.Str.ofString "/" ++ Txt.join (PySem.Str.ofString "/") ps' ++ t.1 := ⟨_, rfl⟩
      have ew2 : w = wr ps' t.1 := ew
      have wl : w.length ≤ 300 := by rw [ew2]; exact hw3 t ht1
      try simp only [cxK, r_lam, r_dnew, r_err, r_base, r_serr, r_var, r_c, r_seq, r_next, r_break, r_cont, r_drop, r_ret, r_retN, r_if, r_ife, r_asg, r_name, r_op, r_un, r_nil, r_cons, r_lst2, r_tup2, r_lc, r_for, r_ilist, r_itup, r_istr, r_irng1, r_irng2, r_ienum, r_ienumS, wipe, r_cb, r_test, r_b, r_not, r_notV, r_andV, r_orV, r_isN, r_notN, r_m1, r_m0, r_fld, sFld, putF, r_par, r_sub, r_gtup, r_gnil, r_gcons, r_sl, r_nopart, r_part, r_bm, r_bm0, r_chain, r_call, r_callK, r_meth, r_prop, r_make, r_and, r_or, andT_t, andT_f, orT_t, orT_f, ifK_t, ifK_f, ifE_t, ifE_f, andK_t, andK_f, orK_t, orK_f, L2.start, List.map_cons, List.map_nil, List.length_cons, List.length_nil, List.replicate_succ, List.replicate_zero, List.cons_append, List.nil_append, List.getElem?_cons_succ, List.getElem?_cons_zero, List.set_cons_succ, List.set_cons_zero, Nat.reduceAdd, Nat.reduceSub, Nat.zero_add, decide_true, decide_false, Bool.not_true, Bool.not_false, if_true, if_false, rEq, rNe, scal_ii, scal_ss, scal_bb, scal_is, scal_si, scal_ns, scal_ni, scal_in, scal_sn, scal_nn, rI, rI0, rU, rIxLH, rIxTH, rLenH, rLenTH, rSetL, rCatN, rTupOfN, rLstOfN, rSlLN, rSlTN, CDiv, CPow, CMul, CDivW, rNeNil, rLenO, rSplitN, rRepN, r_replC, rMulS, r_methK, rRepTN, r_cmK, rCmpO, Bool.false_xor, Bool.true_xor, r_starT, r_starL, r_cm, r_cval, selK_t, selK_f, rAppend, rIsK, reduceCtorEq, upd_same, at0, at1, at2, at3, at4, at5, at6, at7, at8, at9, at10, at11, at12, at13, ix3_0, ix3_1, ix3_2, V.int.injEq, V.bl.injEq, V.str.injEq, V.ref.injEq, Option.some.injEq, HO.lst.injEq, HO.tup.injEq, HO.ins.injEq, List.cons.injEq, and_true, true_and, exists_eq_left, exists_eq_left', exists_and_left, exists_eq', exists_eq, and_assoc, N_law_right]
      rw [← ew]
      refine ⟨fits (by rw [← len_app, ← ew]; omega), D, ps', rfl, hD2, by omega, fun rw1 G3 s3 hrw => ?_⟩
      try simp only [cxK, r_lam, r_dnew, r_err, r_base, r_serr, r_var, r_c, r_seq, r_next, r_break, r_cont, r_drop, r_ret, r_retN, r_if, r_ife, r_asg, r_name, r_op, r_un, r_nil, r_cons, r_lst2, r_tup2, r_lc, r_for, r_ilist, r_itup, r_istr, r_irng1, r_irng2, r_ienum, r_ienumS, wipe, r_cb, r_test, r_b, r_not, r_notV, r_andV, r_orV, r_isN, r_notN, r_m1, r_m0, r_fld, sFld, putF, r_par, r_sub, r_gtup, r_gnil, r_gcons, r_sl, r_nopart, r_part, r_bm, r_bm0, r_chain, r_call, r_callK, r_meth, r_prop, r_make, r_and, r_or, andT_t, andT_f, orT_t, orT_f, ifK_t, ifK_f, ifE_t, ifE_f, andK_t, andK_f, orK_t, orK_f, L2.start, List.map_cons, List.map_nil, List.length_cons, List.length_nil, List.replicate_succ, List.replicate_zero, List.cons_append, List.nil_append, List.getElem?_cons_succ, List.getElem?_cons_zero, List.set_cons_succ, List.set_cons_zero, Nat.reduceAdd, Nat.reduceSub, Nat.zero_add, decide_true, decide_false, Bool.not_true, Bool.not_false, if_true, if_false, rEq, rNe, scal_ii, scal_ss, scal_bb, scal_is, scal_si, scal_ns, scal_ni, scal_in, scal_sn, scal_nn, rI, rI0, rU, rIxLH, rIxTH, rLenH, rLenTH, rSetL, rCatN, rTupOfN, rLstOfN, rSlLN, rSlTN, CDiv, CPow, CMul, CDivW, rNeNil, rLenO, rSplitN, rRepN, r_replC, rMulS, r_methK, rRepTN, r_cmK, rCmpO, Bool.false_xor, Bool.true_xor, r_starT, r_starL, r_cm, r_cval, selK_t, selK_f, rAppend, rIsK, reduceCtorEq, upd_same, at0, at1, at2, at3, at4, at5, at6, at7, at8, at9, at10, at11, at12, at13, ix3_0, ix3_1, ix3_2, V.int.injEq, V.bl.injEq, V.str.injEq, V.ref.injEq, Option.some.injEq, HO.lst.injEq, HO.tup.injEq, HO.ins.injEq, List.cons.injEq, and_true, true_and, exists_eq_left, exists_eq_left', exists_and_left, exists_eq', exists_eq, and_assoc, N_law_right, hrw]
      have o03 : Oth a H G3 := Oth.trans ob (Oth.trans (Oth.of g1.same) (Oth.trans oc (Oth.of s3)))
      have hs3' := hsc.same s3
      have tG3 : LamX.Tabs (TL lm K) G3 := let ⟨c, d, e, _⟩ := hs; tabs_oth ht o03 e
      have hwl := whole_law pne' ht1 pf
      have htl := tail_law pne' lp ht1 pf hg
      rw [← ew2] at hwl htl
      have fin : ∀ G, LamX.ExtN G3 G → LamX.Tabs (TL lm K) G → Q (.bl true) G := fun G e t => q jc G (by omega) (by omega) ((OthN.of o03).trans (OthN.ext e)) t (hs3'.othN e)
      have hk : okS (namesIn w) = "path" := by
        rw [hwl, hb]
        unfold okS
        split <;> rfl
      refine ⟨tG3, fun G4 e4 t4 => TTinv.intro ?_⟩
      try simp only [cxK, r_lam, r_dnew, r_err, r_base, r_serr, r_var, r_c, r_seq, r_next, r_break, r_cont, r_drop, r_ret, r_retN, r_if, r_ife, r_asg, r_name, r_op, r_un, r_nil, r_cons, r_lst2, r_tup2, r_lc, r_for, r_ilist, r_itup, r_istr, r_irng1, r_irng2, r_ienum, r_ienumS, wipe, r_cb, r_test, r_b, r_not, r_notV, r_andV, r_orV, r_isN, r_notN, r_m1, r_m0, r_fld, sFld, putF, r_par, r_sub, r_gtup, r_gnil, r_gcons, r_sl, r_nopart, r_part, r_bm, r_bm0, r_chain, r_call, r_callK, r_meth, r_prop, r_make, r_and, r_or, andT_t, andT_f, orT_t, orT_f, ifK_t, ifK_f, ifE_t, ifE_f, andK_t, andK_f, orK_t, orK_f, L2.start, List.map_cons, List.map_nil, List.length_cons, List.length_nil, List.replicate_succ, List.replicate_zero, List.cons_append, List.nil_append, List.getElem?_cons_succ, List.getElem?_cons_zero, List.set_cons_succ, List.set_cons_zero, Nat.reduceAdd, Nat.reduceSub, Nat.zero_add, decide_true, decide_false, Bool.not_true, Bool.not_false, if_true, if_false, rEq, rNe, scal_ii, scal_ss, scal_bb, scal_is, scal_si, scal_ns, scal_ni, scal_in, scal_sn, scal_nn, rI, rI0, rU, rIxLH, rIxTH, rLenH, rLenTH, rSetL, rCatN, rTupOfN, rLstOfN, rSlLN, rSlTN, CDiv, CPow, CMul, CDivW, rNeNil, rLenO, rSplitN, rRepN, r_replC, rMulS, r_methK, rRepTN, r_cmK, rCmpO, Bool.false_xor, Bool.true_xor, r_starT, r_starL, r_cm, r_cval, selK_t, selK_f, rAppend, rIsK, reduceCtorEq, upd_same, at0, at1, at2, at3, at4, at5, at6, at7, at8, at9, at10, at11, at12, at13, ix3_0, ix3_1, ix3_2, V.int.injEq, V.bl.injEq, V.str.injEq, V.ref.injEq, Option.some.injEq, HO.lst.injEq, HO.tup.injEq, HO.ins.injEq, List.cons.injEq, and_true, true_and, exists_eq_left, exists_eq_left', exists_and_left, exists_eq', exists_eq, and_assoc, N_law_right]
      refine parseK (w := w) (by omega) fun G5 s5 => ?_
      rw [hk]
      try simp only [cxK, r_lam, r_dnew, r_err, r_base, r_serr, r_var, r_c, r_seq, r_next, r_break, r_cont, r_drop, r_ret, r_retN, r_if, r_ife, r_asg, r_name, r_op, r_un, r_nil, r_cons, r_lst2, r_tup2, r_lc, r_for, r_ilist, r_itup, r_istr, r_irng1, r_irng2, r_ienum, r_ienumS, wipe, r_cb, r_test, r_b, r_not, r_notV, r_andV, r_orV, r_isN, r_notN, r_m1, r_m0, r_fld, sFld, putF, r_par, r_sub, r_gtup, r_gnil, r_gcons, r_sl, r_nopart, r_part, r_bm, r_bm0, r_chain, r_call, r_callK, r_meth, r_prop, r_make, r_and, r_or, andT_t, andT_f, orT_t, orT_f, ifK_t, ifK_f, ifE_t, ifE_f, andK_t, andK_f, orK_t, orK_f, L2.start, List.map_cons, List.map_nil, List.length_cons, List.length_nil, List.replicate_succ, List.replicate_zero, List.cons_append, List.nil_append, List.getElem?_cons_succ, List.getElem?_cons_zero, List.set_cons_succ, List.set_cons_zero, Nat.reduceAdd, Nat.reduceSub, Nat.zero_add, decide_true, decide_false, Bool.not_true, Bool.not_false, if_true, if_false, rEq, rNe, scal_ii, scal_ss, scal_bb, scal_is, scal_si, scal_ns, scal_ni, scal_in, scal_sn, scal_nn, rI, rI0, rU, rIxLH, rIxTH, rLenH, rLenTH, rSetL, rCatN, rTupOfN, rLstOfN, rSlLN, rSlTN, CDiv, CPow, CMul, CDivW, rNeNil, rLenO, rSplitN, rRepN, r_replC, rMulS, r_methK, rRepTN, r_cmK, rCmpO, Bool.false_xor, Bool.true_xor, r_starT, r_starL, r_cm, r_cval, selK_t, selK_f, rAppend, rIsK, reduceCtorEq, upd_same, at0, at1, at2, at3, at4, at5, at6, at7, at8, at9, at10, at11, at12, at13, ix3_0, ix3_1, ix3_2, V.int.injEq, V.bl.injEq, V.str.injEq, V.ref.injEq, Option.some.injEq, HO.lst.injEq, HO.tup.injEq, HO.ins.injEq, List.cons.injEq, and_true, true_and, exists_eq_left, exists_eq_left', exists_and_left, exists_eq', exists_eq, and_assoc, N_law_right]
      refine ⟨tabs_same t4 s5, fun G6 e6 t6 => TTinv.intro ?_⟩
      try simp only [cxK, r_lam, r_dnew, r_err, r_base, r_serr, r_var, r_c, r_seq, r_next, r_break, r_cont, r_drop, r_ret, r_retN, r_if, r_ife, r_asg, r_name, r_op, r_un, r_nil, r_cons, r_lst2, r_tup2, r_lc, r_for, r_ilist, r_itup, r_istr, r_irng1, r_irng2, r_ienum, r_ienumS, wipe, r_cb, r_test, r_b, r_not, r_notV, r_andV, r_orV, r_isN, r_notN, r_m1, r_m0, r_fld, sFld, putF, r_par, r_sub, r_gtup, r_gnil, r_gcons, r_sl, r_nopart, r_part, r_bm, r_bm0, r_chain, r_call, r_callK, r_meth, r_prop, r_make, r_and, r_or, andT_t, andT_f, orT_t, orT_f, ifK_t, ifK_f, ifE_t, ifE_f, andK_t, andK_f, orK_t, orK_f, L2.start, List.map_cons, List.map_nil, List.length_cons, List.length_nil, List.replicate_succ, List.replicate_zero, List.cons_append, List.nil_append, List.getElem?_cons_succ, List.getElem?_cons_zero, List.set_cons_succ, List.set_cons_zero, Nat.reduceAdd, Nat.reduceSub, Nat.zero_add, decide_true, decide_false, Bool.not_true, Bool.not_false, if_true, if_false, rEq, rNe, scal_ii, scal_ss, scal_bb, scal_is, scal_si, scal_ns, scal_ni, scal_in, scal_sn, scal_nn, rI, rI0, rU, rIxLH, rIxTH, rLenH, rLenTH, rSetL, rCatN, rTupOfN, rLstOfN, rSlLN, rSlTN, CDiv, CPow, CMul, CDivW, rNeNil, rLenO, rSplitN, rRepN, r_replC, rMulS, r_methK, rRepTN, r_cmK, rCmpO, Bool.false_xor, Bool.true_xor, r_starT, r_starL, r_cm, r_cval, selK_t, selK_f, rAppend, rIsK, reduceCtorEq, upd_same, at0, at1, at2, at3, at4, at5, at6, at7, at8, at9, at10, at11, at12, at13, ix3_0, ix3_1, ix3_2, V.int.injEq, V.bl.injEq, V.str.injEq, V.ref.injEq, Option.some.injEq, HO.lst.injEq, HO.tup.injEq, HO.ins.injEq, List.cons.injEq, and_true, true_and, exists_eq_left, exists_eq_left', exists_and_left, exists_eq', exists_eq, and_assoc, N_law_right]
      refine ⟨w, rfl, fits (by omega), parseK (w := cutS w (some 1) none) (by have := len_cut w (some 1) none; omega) fun G7 s7 => ?_⟩
      rw [hk] at htl
      rw [if_neg (fun h => absurd h.2 (by decide))] at htl
      rw [htl]
      try simp only [cxK, r_lam, r_dnew, r_err, r_base, r_serr, r_var, r_c, r_seq, r_next, r_break, r_cont, r_drop, r_ret, r_retN, r_if, r_ife, r_asg, r_name, r_op, r_un, r_nil, r_cons, r_lst2, r_tup2, r_lc, r_for, r_ilist, r_itup, r_istr, r_irng1, r_irng2, r_ienum, r_ienumS, wipe, r_cb, r_test, r_b, r_not, r_notV, r_andV, r_orV, r_isN, r_notN, r_m1, r_m0, r_fld, sFld, putF, r_par, r_sub, r_gtup, r_gnil, r_gcons, r_sl, r_nopart, r_part, r_bm, r_bm0, r_chain, r_call, r_callK, r_meth, r_prop, r_make, r_and, r_or, andT_t, andT_f, orT_t, orT_f, ifK_t, ifK_f, ifE_t, ifE_f, andK_t, andK_f, orK_t, orK_f, L2.start, List.map_cons, List.map_nil, List.length_cons, List.length_nil, List.replicate_succ, List.replicate_zero, List.cons_append, List.nil_append, List.getElem?_cons_succ, List.getElem?_cons_zero, List.set_cons_succ, List.set_cons_zero, Nat.reduceAdd, Nat.reduceSub, Nat.zero_add, decide_true, decide_false, Bool.not_true, Bool.not_false, if_true, if_false, rEq, rNe, scal_ii, scal_ss, scal_bb, scal_is, scal_si, scal_ns, scal_ni, scal_in, scal_sn, scal_nn, rI, rI0, rU, rIxLH, rIxTH, rLenH, rLenTH, rSetL, rCatN, rTupOfN, rLstOfN, rSlLN, rSlTN, CDiv, CPow, CMul, CDivW, rNeNil, rLenO, rSplitN, rRepN, r_replC, rMulS, r_methK, rRepTN, r_cmK, rCmpO, Bool.false_xor, Bool.true_xor, r_starT, r_starL, r_cm, r_cval, selK_t, selK_f, rAppend, rIsK, reduceCtorEq, upd_same, at0, at1, at2, at3, at4, at5, at6, at7, at8, at9, at10, at11, at12, at13, ix3_0, ix3_1, ix3_2, V.int.injEq, V.bl.injEq, V.str.injEq, V.ref.injEq, Option.some.injEq, HO.lst.injEq, HO.tup.injEq, HO.ins.injEq, List.cons.injEq, and_true, true_and, exists_eq_left, exists_eq_left', exists_and_left, exists_eq', exists_eq, and_assoc, N_law_right]
      refine ⟨w, rfl, fits (by omega), ?_⟩
      by_cases c12 : cutS w (some 1) (some 2) = "/"
      · have nd : (PySem.Str.ofString "path" = PySem.Str.ofString "") = False := eq_false (by decide)
        try simp only [cxK, r_lam, r_dnew, r_err, r_base, r_serr, r_var, r_c, r_seq, r_next, r_break, r_cont, r_drop, r_ret, r_retN, r_if, r_ife, r_asg, r_name, r_op, r_un, r_nil, r_cons, r_lst2, r_tup2, r_lc, r_for, r_ilist, r_itup, r_istr, r_irng1, r_irng2, r_ienum, r_ienumS, wipe, r_cb, r_test, r_b, r_not, r_notV, r_andV, r_orV, r_isN, r_notN, r_m1, r_m0, r_fld, sFld, putF, r_par, r_sub, r_gtup, r_gnil, r_gcons, r_sl, r_nopart, r_part, r_bm, r_bm0, r_chain, r_call, r_callK, r_meth, r_prop, r_make, r_and, r_or, andT_t, andT_f, orT_t, orT_f, ifK_t, ifK_f, ifE_t, ifE_f, andK_t, andK_f, orK_t, orK_f, L2.start, List.map_cons, List.map_nil, List.length_cons, List.length_nil, List.replicate_succ, List.replicate_zero, List.cons_append, List.nil_append, List.getElem?_cons_succ, List.getElem?_cons_zero, List.set_cons_succ, List.set_cons_zero, Nat.reduceAdd, Nat.reduceSub, Nat.zero_add, decide_true, decide_false, Bool.not_true, Bool.not_false, if_true, if_false, rEq, rNe, scal_ii, scal_ss, scal_bb, scal_is, scal_si, scal_ns, scal_ni, scal_in, scal_sn, scal_nn, rI, rI0, rU, rIxLH, rIxTH, rLenH, rLenTH, rSetL, rCatN, rTupOfN, rLstOfN, rSlLN, rSlTN, CDiv, CPow, CMul, CDivW, rNeNil, rLenO, rSplitN, rRepN, r_replC, rMulS, r_methK, rRepTN, r_cmK, rCmpO, Bool.false_xor, Bool.true_xor, r_starT, r_starL, r_cm, r_cval, selK_t, selK_f, rAppend, rIsK, reduceCtorEq, upd_same, at0, at1, at2, at3, at4, at5, at6, at7, at8, at9, at10, at11, at12, at13, ix3_0, ix3_1, ix3_2, V.int.injEq, V.bl.injEq, V.str.injEq, V.ref.injEq, Option.some.injEq, HO.lst.injEq, HO.tup.injEq, HO.ins.injEq, List.cons.injEq, and_true, true_and, exists_eq_left, exists_eq_left', exists_and_left, exists_eq', exists_eq, and_assoc, N_law_right, c12, nd]
        exact fin G7 (ext_trans e4 (ext_trans (ext_same s5) (ext_trans e6 (ext_same s7)))) (tabs_same t6 s7)
      · try simp only [cxK, r_lam, r_dnew, r_err, r_base, r_serr, r_var, r_c, r_seq, r_next, r_break, r_cont, r_drop, r_ret, r_retN, r_if, r_ife, r_asg, r_name, r_op, r_un, r_nil, r_cons, r_lst2, r_tup2, r_lc, r_for, r_ilist, r_itup, r_istr, r_irng1, r_irng2, r_ienum, r_ienumS, wipe, r_cb, r_test, r_b, r_not, r_notV, r_andV, r_orV, r_isN, r_notN, r_m1, r_m0, r_fld, sFld, putF, r_par, r_sub, r_gtup, r_gnil, r_gcons, r_sl, r_nopart, r_part, r_bm, r_bm0, r_chain, r_call, r_callK, r_meth, r_prop, r_make, r_and, r_or, andT_t, andT_f, orT_t, orT_f, ifK_t, ifK_f, ifE_t, ifE_f, andK_t, andK_f, orK_t, orK_f, L2.start, List.map_cons, List.map_nil, List.length_cons, List.length_nil, List.replicate_succ, List.replicate_zero, List.cons_append, List.nil_append, List.getElem?_cons_succ, List.getElem?_cons_zero, List.set_cons_succ, List.set_cons_zero, Nat.reduceAdd, Nat.reduceSub, Nat.zero_add, decide_true, decide_false, Bool.not_true, Bool.not_false, if_true, if_false, rEq, rNe, scal_ii, scal_ss, scal_bb, scal_is, scal_si, scal_ns, scal_ni, scal_in, scal_sn, scal_nn, rI, rI0, rU, rIxLH, rIxTH, rLenH, rLenTH, rSetL, rCatN, rTupOfN, rLstOfN, rSlLN, rSlTN, CDiv, CPow, CMul, CDivW, rNeNil, rLenO, rSplitN, rRepN, r_replC, rMulS, r_methK, rRepTN, r_cmK, rCmpO, Bool.false_xor, Bool.true_xor, r_starT, r_starL, r_cm, r_cval, selK_t, selK_f, rAppend, rIsK, reduceCtorEq, upd_same, at0, at1, at2, at3, at4, at5, at6, at7, at8, at9, at10, at11, at12, at13, ix3_0, ix3_1, ix3_2, V.int.injEq, V.bl.injEq, V.str.injEq, V.ref.injEq, Option.some.injEq, HO.lst.injEq, HO.tup.injEq, HO.ins.injEq, List.cons.injEq, and_true, true_and, exists_eq_left, exists_eq_left', exists_and_left, exists_eq', exists_eq, and_assoc, N_law_right, c12]
        exact fin G7 (ext_trans e4 (ext_trans (ext_same s5) (ext_trans e6 (ext_same s7)))) (tabs_same t6 s7)
    · try simp only [cxK, r_lam, r_dnew, r_err, r_base, r_serr, r_var, r_c, r_seq, r_next, r_break, r_cont, r_drop, r_ret, r_retN, r_if, r_ife, r_asg, r_name, r_op, r_un, r_nil, r_cons, r_lst2, r_tup2, r_lc, r_for, r_ilist, r_itup, r_istr, r_irng1, r_irng2, r_ienum, r_ienumS, wipe, r_cb, r_test, r_b, r_not, r_notV, r_andV, r_orV, r_isN, r_notN, r_m1, r_m0, r_fld, sFld, putF, r_par, r_sub, r_gtup, r_gnil, r_gcons, r_sl, r_nopart, r_part, r_bm, r_bm0, r_chain, r_call, r_callK, r_meth, r_prop, r_make, r_and, r_or, andT_t, andT_f, orT_t, orT_f, ifK_t, ifK_f, ifE_t, ifE_f, andK_t, andK_f, orK_t, orK_f, L2.start, List.map_cons, List.map_nil, List.length_cons, List.length_nil, List.replicate_succ, List.replicate_zero, List.cons_append, List.nil_append, List.getElem?_cons_succ, List.getElem?_cons_zero, List.set_cons_succ, List.set_cons_zero, Nat.reduceAdd, Nat.reduceSub, Nat.zero_add, decide_true, decide_false, Bool.not_true, Bool.not_false, if_true, if_false, rEq, rNe, scal_ii, scal_ss, scal_bb, scal_is, scal_si, scal_ns, scal_ni, scal_in, scal_sn, scal_nn, rI, rI0, rU, rIxLH, rIxTH, rLenH, rLenTH, rSetL, rCatN, rTupOfN, rLstOfN, rSlLN, rSlTN, CDiv, CPow, CMul, CDivW, rNeNil, rLenO, rSplitN, rRepN, r_replC, rMulS, r_methK, rRepTN, r_cmK, rCmpO, Bool.false_xor, Bool.true_xor, r_starT, r_starL, r_cm, r_cval, selK_t, selK_f, rAppend, rIsK, reduceCtorEq, upd_same, at0, at1, at2, at3, at4, at5, at6, at7, at8, at9, at10, at11, at12, at13, ix3_0, ix3_1, ix3_2, V.int.injEq, V.bl.injEq, V.str.injEq, V.ref.injEq, Option.some.injEq, HO.lst.injEq, HO.tup.injEq, HO.ins.injEq, List.cons.injEq, and_true, true_and, exists_eq_left, exists_eq_left', exists_and_left, exists_eq', exists_eq, and_assoc, N_law_right, c4]
      obtain ⟨ps', eps⟩ : ∃ ps', ps' = ps := ⟨_, rfl⟩
      rw [← eps] at hN lps pne hD4
      have hDb := hD4
      have hsb := hs4
      have ob := o04
      have lp : ps'.length ≤ 16 := by omega
      have plen : ∀ p ∈ ps', p.length ≤ 13 := fun p hp => by have := good_len (hN p hp); rw [tl_len] at this; omega
      have pf : ∀ p ∈ ps', 47 ∉ tl p := fun p hp => good_free (hN p hp)
      have hg : (∀ p ∈ ps', good p) ∨ ps'.foldl stepNm (some []) = none := .inl hN
      have pl1 : ∀ p ∈ ps', p.length ≤ 13 := plen
      obtain ⟨hw1, hw2, hw3⟩ := wr_len (ps := ps') pne lp pl1
      refine ⟨ps', Or.inl (SqL.of hDb), by rw [show (PySem.Str.ofString "/").length = 1 by decide]; omega, fits (by omega), fits (by decide), fun pt G1 g1 => ?_⟩
      refine ⟨a, pt, j8, _, rfl, fun e => hsb.ne g1.1 e.symm, g1.at_, by simp, by simp, hsb.same g1.same, by omega, fun i1 v1 jc G2 hv jc1 jc2 oc hsc => ?_⟩
      obtain ⟨t, ht1, rfl⟩ := tail_of hv
      have hD2 := oc _ _ aD (g1.old hDb)
      obtain ⟨w, ew⟩ : ∃ w, w = PySem.Str.ofString "/" ++ Txt.join (PySem.Str.ofString "/") ps' ++ t.1 := ⟨_, rfl⟩
      have ew2 : w = wr ps' t.1 := ew
      have wl : w.length ≤ 300 := by rw [ew2]; exact hw3 t ht1
      try simp only [cxK, r_lam, r_dnew, r_err, r_base, r_serr, r_var, r_c, r_seq, r_next, r_break, r_cont, r_drop, r_ret, r_retN, r_if, r_ife, r_asg, r_name, r_op, r_un, r_nil, r_cons, r_lst2, r_tup2, r_lc, r_for, r_ilist, r_itup, r_istr, r_irng1, r_irng2, r_ienum, r_ienumS, wipe, r_cb, r_test, r_b, r_not, r_notV, r_andV, r_orV, r_isN, r_notN, r_m1, r_m0, r_fld, sFld, putF, r_par, r_sub, r_gtup, r_gnil, r_gcons, r_sl, r_nopart, r_part, r_bm, r_bm0, r_chain, r_call, r_callK, r_meth, r_prop, r_make, r_and, r_or, andT_t, andT_f, orT_t, orT_f, ifK_t, ifK_f, ifE_t, ifE_f, andK_t, andK_f, orK_t, orK_f, L2.start, List.map_cons, List.map_nil, List.length_cons, List.length_nil, List.replicate_succ, List.replicate_zero, List.cons_append, List.nil_append, List.getElem?_cons_succ, List.getElem?_cons_zero, List.set_cons_succ, List.set_cons_zero, Nat.reduceAdd, Nat.reduceSub, Nat.zero_add, decide_true, decide_false, Bool.not_true, Bool.not_false, if_true, if_false, rEq, rNe, scal_ii, scal_ss, scal_bb, scal_is, scal_si, scal_ns, scal_ni, scal_in, scal_sn, scal_nn, rI, rI0, rU, rIxLH, rIxTH, rLenH, rLenTH, rSetL, rCatN, rTupOfN, rLstOfN, rSlLN, rSlTN, CDiv, CPow, CMul, CDivW, rNeNil, rLenO, rSplitN, rRepN, r_replC, rMulS, r_methK, rRepTN, r_cmK, rCmpO, Bool.false_xor, Bool.true_xor, r_starT, r_starL, r_cm, r_cval, selK_t, selK_f, rAppend, rIsK, reduceCtorEq, upd_same, at0, at1, at2, at3, at4, at5, at6, at7, at8, at9, at10, at11, at12, at13, ix3_0, ix3_1, ix3_2, V.int.injEq, V.bl.injEq, V.str.injEq, V.ref.injEq, Option.some.injEq, HO.lst.injEq, HO.tup.injEq, HO.ins.injEq, List.cons.injEq, and_true, true_and, exists_eq_left, exists_eq_left', exists_and_left, exists_eq', exists_eq, and_assoc, N_law_right]
      rw [← ew]
      refine ⟨fits (by rw [← len_app, ← ew]; omega), D, ps', rfl, hD2, by omega, fun rw1 G3 s3 hrw => ?_⟩
      try simp only [cxK, r_lam, r_dnew, r_err, r_base, r_serr, r_var, r_c, r_seq, r_next, r_break, r_cont, r_drop, r_ret, r_retN, r_if, r_ife, r_asg, r_name, r_op, r_un, r_nil, r_cons, r_lst2, r_tup2, r_lc, r_for, r_ilist, r_itup, r_istr, r_irng1, r_irng2, r_ienum, r_ienumS, wipe, r_cb, r_test, r_b, r_not, r_notV, r_andV, r_orV, r_isN, r_notN, r_m1, r_m0, r_fld, sFld, putF, r_par, r_sub, r_gtup, r_gnil, r_gcons, r_sl, r_nopart, r_part, r_bm, r_bm0, r_chain, r_call, r_callK, r_meth, r_prop, r_make, r_and, r_or, andT_t, andT_f, orT_t, orT_f, ifK_t, ifK_f, ifE_t, ifE_f, andK_t, andK_f, orK_t, orK_f, L2.start, List.map_cons, List.map_nil, List.length_cons, List.length_nil, List.replicate_succ, List.replicate_zero, List.cons_append, List.nil_append, List.getElem?_cons_succ, List.getElem?_cons_zero, List.set_cons_succ, List.set_cons_zero, Nat.reduceAdd, Nat.reduceSub, Nat.zero_add, decide_true, decide_false, Bool.not_true, Bool.not_false, if_true, if_false, rEq, rNe, scal_ii, scal_ss, scal_bb, scal_is, scal_si, scal_ns, scal_ni, scal_in, scal_sn, scal_nn, rI, rI0, rU, rIxLH, rIxTH, rLenH, rLenTH, rSetL, rCatN, rTupOfN, rLstOfN, rSlLN, rSlTN, CDiv, CPow, CMul, CDivW, rNeNil, rLenO, rSplitN, rRepN, r_replC, rMulS, r_methK, rRepTN, r_cmK, rCmpO, Bool.false_xor, Bool.true_xor, r_starT, r_starL, r_cm, r_cval, selK_t, selK_f, rAppend, rIsK, reduceCtorEq, upd_same, at0, at1, at2, at3, at4, at5, at6, at7, at8, at9, at10, at11, at12, at13, ix3_0, ix3_1, ix3_2, V.int.injEq, V.bl.injEq, V.str.injEq, V.ref.injEq, Option.some.injEq, HO.lst.injEq, HO.tup.injEq, HO.ins.injEq, List.cons.injEq, and_true, true_and, exists_eq_left, exists_eq_left', exists_and_left, exists_eq', exists_eq, and_assoc, N_law_right, hrw]
      have o03 : Oth a H G3 := Oth.trans ob (Oth.trans (Oth.of g1.same) (Oth.trans oc (Oth.of s3)))
      have hs3' := hsc.same s3
      have tG3 : LamX.Tabs (TL lm K) G3 := let ⟨c, d, e, _⟩ := hs; tabs_oth ht o03 e
      have hwl := whole_law pne ht1 pf
      have htl := tail_law pne lp ht1 pf hg
      rw [← ew2] at hwl htl
      have fin : ∀ G, LamX.ExtN G3 G → LamX.Tabs (TL lm K) G → Q (.bl true) G := fun G e t => q jc G (by omega) (by omega) ((OthN.of o03).trans (OthN.ext e)) t (hs3'.othN e)
      have hfd : ps'.foldl stepNm (some []) = some (rowOf ps') := fold_good ps' [] hN
      rw [hfd] at hwl
      by_cases r12 : (((rowOf ps').map V.str).length : Int) ≤ 12
      · have q12 : (rowOf ps').length ≤ 12 := by rw [List.length_map] at r12; omega
        try simp only [cxK, r_lam, r_dnew, r_err, r_base, r_serr, r_var, r_c, r_seq, r_next, r_break, r_cont, r_drop, r_ret, r_retN, r_if, r_ife, r_asg, r_name, r_op, r_un, r_nil, r_cons, r_lst2, r_tup2, r_lc, r_for, r_ilist, r_itup, r_istr, r_irng1, r_irng2, r_ienum, r_ienumS, wipe, r_cb, r_test, r_b, r_not, r_notV, r_andV, r_orV, r_isN, r_notN, r_m1, r_m0, r_fld, sFld, putF, r_par, r_sub, r_gtup, r_gnil, r_gcons, r_sl, r_nopart, r_part, r_bm, r_bm0, r_chain, r_call, r_callK, r_meth, r_prop, r_make, r_and, r_or, andT_t, andT_f, orT_t, orT_f, ifK_t, ifK_f, ifE_t, ifE_f, andK_t, andK_f, orK_t, orK_f, L2.start, List.map_cons, List.map_nil, List.length_cons, List.length_nil, List.replicate_succ, List.replicate_zero, List.cons_append, List.nil_append, List.getElem?_cons_succ, List.getElem?_cons_zero, List.set_cons_succ, List.set_cons_zero, Nat.reduceAdd, Nat.reduceSub, Nat.zero_add, decide_true, decide_false, Bool.not_true, Bool.not_false, if_true, if_false, rEq, rNe, scal_ii, scal_ss, scal_bb, scal_is, scal_si, scal_ns, scal_ni, scal_in, scal_sn, scal_nn, rI, rI0, rU, rIxLH, rIxTH, rLenH, rLenTH, rSetL, rCatN, rTupOfN, rLstOfN, rSlLN, rSlTN, CDiv, CPow, CMul, CDivW, rNeNil, rLenO, rSplitN, rRepN, r_replC, rMulS, r_methK, rRepTN, r_cmK, rCmpO, Bool.false_xor, Bool.true_xor, r_starT, r_starL, r_cm, r_cval, selK_t, selK_f, rAppend, rIsK, reduceCtorEq, upd_same, at0, at1, at2, at3, at4, at5, at6, at7, at8, at9, at10, at11, at12, at13, ix3_0, ix3_1, ix3_2, V.int.injEq, V.bl.injEq, V.str.injEq, V.ref.injEq, Option.some.injEq, HO.lst.injEq, HO.tup.injEq, HO.ins.injEq, List.cons.injEq, and_true, true_and, exists_eq_left, exists_eq_left', exists_and_left, exists_eq', exists_eq, and_assoc, N_law_right, r12]
        refine ⟨fits (by omega), ?_⟩
        by_cases h200 : (w.length : Int) ≤ 200
        · have hsome : namesIn w = some (rowOf ps') := by
            rw [hwl, if_neg (by omega)]
            exact if_pos q12
          have hk : okS (namesIn w) = "" := by rw [hsome] <;> rfl
          try simp only [cxK, r_lam, r_dnew, r_err, r_base, r_serr, r_var, r_c, r_seq, r_next, r_break, r_cont, r_drop, r_ret, r_retN, r_if, r_ife, r_asg, r_name, r_op, r_un, r_nil, r_cons, r_lst2, r_tup2, r_lc, r_for, r_ilist, r_itup, r_istr, r_irng1, r_irng2, r_ienum, r_ienumS, wipe, r_cb, r_test, r_b, r_not, r_notV, r_andV, r_orV, r_isN, r_notN, r_m1, r_m0, r_fld, sFld, putF, r_par, r_sub, r_gtup, r_gnil, r_gcons, r_sl, r_nopart, r_part, r_bm, r_bm0, r_chain, r_call, r_callK, r_meth, r_prop, r_make, r_and, r_or, andT_t, andT_f, orT_t, orT_f, ifK_t, ifK_f, ifE_t, ifE_f, andK_t, andK_f, orK_t, orK_f, L2.start, List.map_cons, List.map_nil, List.length_cons, List.length_nil, List.replicate_succ, List.replicate_zero, List.cons_append, List.nil_append, List.getElem?_cons_succ, List.getElem?_cons_zero, List.set_cons_succ, List.set_cons_zero, Nat.reduceAdd, Nat.reduceSub, Nat.zero_add, decide_true, decide_false, Bool.not_true, Bool.not_false, if_true, if_false, rEq, rNe, scal_ii, scal_ss, scal_bb, scal_is, scal_si, scal_ns, scal_ni, scal_in, scal_sn, scal_nn, rI, rI0, rU, rIxLH, rIxTH, rLenH, rLenTH, rSetL, rCatN, rTupOfN, rLstOfN, rSlLN, rSlTN, CDiv, CPow, CMul, CDivW, rNeNil, rLenO, rSplitN, rRepN, r_replC, rMulS, r_methK, rRepTN, r_cmK, rCmpO, Bool.false_xor, Bool.true_xor, r_starT, r_starL, r_cm, r_cval, selK_t, selK_f, rAppend, rIsK, reduceCtorEq, upd_same, at0, at1, at2, at3, at4, at5, at6, at7, at8, at9, at10, at11, at12, at13, ix3_0, ix3_1, ix3_2, V.int.injEq, V.bl.injEq, V.str.injEq, V.ref.injEq, Option.some.injEq, HO.lst.injEq, HO.tup.injEq, HO.ins.injEq, List.cons.injEq, and_true, true_and, exists_eq_left, exists_eq_left', exists_and_left, exists_eq', exists_eq, and_assoc, N_law_right, h200]
          refine ⟨tG3, fun G4 e4 t4 => TTinv.intro ?_⟩
          try simp only [cxK, r_lam, r_dnew, r_err, r_base, r_serr, r_var, r_c, r_seq, r_next, r_break, r_cont, r_drop, r_ret, r_retN, r_if, r_ife, r_asg, r_name, r_op, r_un, r_nil, r_cons, r_lst2, r_tup2, r_lc, r_for, r_ilist, r_itup, r_istr, r_irng1, r_irng2, r_ienum, r_ienumS, wipe, r_cb, r_test, r_b, r_not, r_notV, r_andV, r_orV, r_isN, r_notN, r_m1, r_m0, r_fld, sFld, putF, r_par, r_sub, r_gtup, r_gnil, r_gcons, r_sl, r_nopart, r_part, r_bm, r_bm0, r_chain, r_call, r_callK, r_meth, r_prop, r_make, r_and, r_or, andT_t, andT_f, orT_t, orT_f, ifK_t, ifK_f, ifE_t, ifE_f, andK_t, andK_f, orK_t, orK_f, L2.start, List.map_cons, List.map_nil, List.length_cons, List.length_nil, List.replicate_succ, List.replicate_zero, List.cons_append, List.nil_append, List.getElem?_cons_succ, List.getElem?_cons_zero, List.set_cons_succ, List.set_cons_zero, Nat.reduceAdd, Nat.reduceSub, Nat.zero_add, decide_true, decide_false, Bool.not_true, Bool.not_false, if_true, if_false, rEq, rNe, scal_ii, scal_ss, scal_bb, scal_is, scal_si, scal_ns, scal_ni, scal_in, scal_sn, scal_nn, rI, rI0, rU, rIxLH, rIxTH, rLenH, rLenTH, rSetL, rCatN, rTupOfN, rLstOfN, rSlLN, rSlTN, CDiv, CPow, CMul, CDivW, rNeNil, rLenO, rSplitN, rRepN, r_replC, rMulS, r_methK, rRepTN, r_cmK, rCmpO, Bool.false_xor, Bool.true_xor, r_starT, r_starL, r_cm, r_cval, selK_t, selK_f, rAppend, rIsK, reduceCtorEq, upd_same, at0, at1, at2, at3, at4, at5, at6, at7, at8, at9, at10, at11, at12, at13, ix3_0, ix3_1, ix3_2, V.int.injEq, V.bl.injEq, V.str.injEq, V.ref.injEq, Option.some.injEq, HO.lst.injEq, HO.tup.injEq, HO.ins.injEq, List.cons.injEq, and_true, true_and, exists_eq_left, exists_eq_left', exists_and_left, exists_eq', exists_eq, and_assoc, N_law_right]
          refine parseK (w := w) (by omega) fun G5 s5 => ?_
          rw [hk]
          try simp only [cxK, r_lam, r_dnew, r_err, r_base, r_serr, r_var, r_c, r_seq, r_next, r_break, r_cont, r_drop, r_ret, r_retN, r_if, r_ife, r_asg, r_name, r_op, r_un, r_nil, r_cons, r_lst2, r_tup2, r_lc, r_for, r_ilist, r_itup, r_istr, r_irng1, r_irng2, r_ienum, r_ienumS, wipe, r_cb, r_test, r_b, r_not, r_notV, r_andV, r_orV, r_isN, r_notN, r_m1, r_m0, r_fld, sFld, putF, r_par, r_sub, r_gtup, r_gnil, r_gcons, r_sl, r_nopart, r_part, r_bm, r_bm0, r_chain, r_call, r_callK, r_meth, r_prop, r_make, r_and, r_or, andT_t, andT_f, orT_t, orT_f, ifK_t, ifK_f, ifE_t, ifE_f, andK_t, andK_f, orK_t, orK_f, L2.start, List.map_cons, List.map_nil, List.length_cons, List.length_nil, List.replicate_succ, List.replicate_zero, List.cons_append, List.nil_append, List.getElem?_cons_succ, List.getElem?_cons_zero, List.set_cons_succ, List.set_cons_zero, Nat.reduceAdd, Nat.reduceSub, Nat.zero_add, decide_true, decide_false, Bool.not_true, Bool.not_false, if_true, if_false, rEq, rNe, scal_ii, scal_ss, scal_bb, scal_is, scal_si, scal_ns, scal_ni, scal_in, scal_sn, scal_nn, rI, rI0, rU, rIxLH, rIxTH, rLenH, rLenTH, rSetL, rCatN, rTupOfN, rLstOfN, rSlLN, rSlTN, CDiv, CPow, CMul, CDivW, rNeNil, rLenO, rSplitN, rRepN, r_replC, rMulS, r_methK, rRepTN, r_cmK, rCmpO, Bool.false_xor, Bool.true_xor, r_starT, r_starL, r_cm, r_cval, selK_t, selK_f, rAppend, rIsK, reduceCtorEq, upd_same, at0, at1, at2, at3, at4, at5, at6, at7, at8, at9, at10, at11, at12, at13, ix3_0, ix3_1, ix3_2, V.int.injEq, V.bl.injEq, V.str.injEq, V.ref.injEq, Option.some.injEq, HO.lst.injEq, HO.tup.injEq, HO.ins.injEq, List.cons.injEq, and_true, true_and, exists_eq_left, exists_eq_left', exists_and_left, exists_eq', exists_eq, and_assoc, N_law_right]
          have hrw5 := s5 _ _ (e4 _ _ hrw nofun)
          refine ⟨.str w, some (rowOf ps'), rfl, .inl ⟨w, rfl, by omega, hsome.symm⟩, fun ms p G6 er s6 hp _ hM => ?_, fun d fs G6 er => nomatch er⟩
          cases er
          obtain ⟨dx, t5, hp1, hp2⟩ := hp
          try simp only [cxK, r_lam, r_dnew, r_err, r_base, r_serr, r_var, r_c, r_seq, r_next, r_break, r_cont, r_drop, r_ret, r_retN, r_if, r_ife, r_asg, r_name, r_op, r_un, r_nil, r_cons, r_lst2, r_tup2, r_lc, r_for, r_ilist, r_itup, r_istr, r_irng1, r_irng2, r_ienum, r_ienumS, wipe, r_cb, r_test, r_b, r_not, r_notV, r_andV, r_orV, r_isN, r_notN, r_m1, r_m0, r_fld, sFld, putF, r_par, r_sub, r_gtup, r_gnil, r_gcons, r_sl, r_nopart, r_part, r_bm, r_bm0, r_chain, r_call, r_callK, r_meth, r_prop, r_make, r_and, r_or, andT_t, andT_f, orT_t, orT_f, ifK_t, ifK_f, ifE_t, ifE_f, andK_t, andK_f, orK_t, orK_f, L2.start, List.map_cons, List.map_nil, List.length_cons, List.length_nil, List.replicate_succ, List.replicate_zero, List.cons_append, List.nil_append, List.getElem?_cons_succ, List.getElem?_cons_zero, List.set_cons_succ, List.set_cons_zero, Nat.reduceAdd, Nat.reduceSub, Nat.zero_add, decide_true, decide_false, Bool.not_true, Bool.not_false, if_true, if_false, rEq, rNe, scal_ii, scal_ss, scal_bb, scal_is, scal_si, scal_ns, scal_ni, scal_in, scal_sn, scal_nn, rI, rI0, rU, rIxLH, rIxTH, rLenH, rLenTH, rSetL, rCatN, rTupOfN, rLstOfN, rSlLN, rSlTN, CDiv, CPow, CMul, CDivW, rNeNil, rLenO, rSplitN, rRepN, r_replC, rMulS, r_methK, rRepTN, r_cmK, rCmpO, Bool.false_xor, Bool.true_xor, r_starT, r_starL, r_cm, r_cval, selK_t, selK_f, rAppend, rIsK, reduceCtorEq, upd_same, at0, at1, at2, at3, at4, at5, at6, at7, at8, at9, at10, at11, at12, at13, ix3_0, ix3_1, ix3_2, V.int.injEq, V.bl.injEq, V.str.injEq, V.ref.injEq, Option.some.injEq, HO.lst.injEq, HO.tup.injEq, HO.ins.injEq, List.cons.injEq, and_true, true_and, exists_eq_left, exists_eq_left', exists_and_left, exists_eq', exists_eq, and_assoc, N_law_right, hp1]
          refine ⟨(cls_ok (T.c.fact 14 (f := fCls "Path") rfl)), (noat_ok (T.c.fact 15 (f := fNo "Path" "names") rfl)), _, rfl, ?_⟩
          have okR : ∀ x ∈ rowOf ps', PyData.strOk x = true ∧ x.length ≤ 12 := fun x hx => by
            have := isNm_fits (hM x hx)
            exact ⟨this.2.1, this.1⟩
          have rp : Rp ((rowOf ps').length * (12 + 1)) (0 + 1) (.tuple ((rowOf ps').map PyData.str)) := Rp.tuple (RpA.strs okR)
          refine repr_of (.tup (SqT.of hp2) (dp_strs _)) rp (by omega) (by decide) (fun _ h => nomatch h) ?_
          have hrw6 := s6 _ _ hrw5
          try simp only [cxK, r_lam, r_dnew, r_err, r_base, r_serr, r_var, r_c, r_seq, r_next, r_break, r_cont, r_drop, r_ret, r_retN, r_if, r_ife, r_asg, r_name, r_op, r_un, r_nil, r_cons, r_lst2, r_tup2, r_lc, r_for, r_ilist, r_itup, r_istr, r_irng1, r_irng2, r_ienum, r_ienumS, wipe, r_cb, r_test, r_b, r_not, r_notV, r_andV, r_orV, r_isN, r_notN, r_m1, r_m0, r_fld, sFld, putF, r_par, r_sub, r_gtup, r_gnil, r_gcons, r_sl, r_nopart, r_part, r_bm, r_bm0, r_chain, r_call, r_callK, r_meth, r_prop, r_make, r_and, r_or, andT_t, andT_f, orT_t, orT_f, ifK_t, ifK_f, ifE_t, ifE_f, andK_t, andK_f, orK_t, orK_f, L2.start, List.map_cons, List.map_nil, List.length_cons, List.length_nil, List.replicate_succ, List.replicate_zero, List.cons_append, List.nil_append, List.getElem?_cons_succ, List.getElem?_cons_zero, List.set_cons_succ, List.set_cons_zero, Nat.reduceAdd, Nat.reduceSub, Nat.zero_add, decide_true, decide_false, Bool.not_true, Bool.not_false, if_true, if_false, rEq, rNe, scal_ii, scal_ss, scal_bb, scal_is, scal_si, scal_ns, scal_ni, scal_in, scal_sn, scal_nn, rI, rI0, rU, rIxLH, rIxTH, rLenH, rLenTH, rSetL, rCatN, rTupOfN, rLstOfN, rSlLN, rSlTN, CDiv, CPow, CMul, CDivW, rNeNil, rLenO, rSplitN, rRepN, r_replC, rMulS, r_methK, rRepTN, r_cmK, rCmpO, Bool.false_xor, Bool.true_xor, r_starT, r_starL, r_cm, r_cval, selK_t, selK_f, rAppend, rIsK, reduceCtorEq, upd_same, at0, at1, at2, at3, at4, at5, at6, at7, at8, at9, at10, at11, at12, at13, ix3_0, ix3_1, ix3_2, V.int.injEq, V.bl.injEq, V.str.injEq, V.ref.injEq, Option.some.injEq, HO.lst.injEq, HO.tup.injEq, HO.ins.injEq, List.cons.injEq, and_true, true_and, exists_eq_left, exists_eq_left', exists_and_left, exists_eq', exists_eq, and_assoc, N_law_right, hrw6]
          intro u7 G7 n7
          refine repr_of (.tup (SqT.of n7.at_) (dp_strs _)) rp (by omega) (by decide) (fun _ h => nomatch h) ?_
          try simp only [cxK, r_lam, r_dnew, r_err, r_base, r_serr, r_var, r_c, r_seq, r_next, r_break, r_cont, r_drop, r_ret, r_retN, r_if, r_ife, r_asg, r_name, r_op, r_un, r_nil, r_cons, r_lst2, r_tup2, r_lc, r_for, r_ilist, r_itup, r_istr, r_irng1, r_irng2, r_ienum, r_ienumS, wipe, r_cb, r_test, r_b, r_not, r_notV, r_andV, r_orV, r_isN, r_notN, r_m1, r_m0, r_fld, sFld, putF, r_par, r_sub, r_gtup, r_gnil, r_gcons, r_sl, r_nopart, r_part, r_bm, r_bm0, r_chain, r_call, r_callK, r_meth, r_prop, r_make, r_and, r_or, andT_t, andT_f, orT_t, orT_f, ifK_t, ifK_f, ifE_t, ifE_f, andK_t, andK_f, orK_t, orK_f, L2.start, List.map_cons, List.map_nil, List.length_cons, List.length_nil, List.replicate_succ, List.replicate_zero, List.cons_append, List.nil_append, List.getElem?_cons_succ, List.getElem?_cons_zero, List.set_cons_succ, List.set_cons_zero, Nat.reduceAdd, Nat.reduceSub, Nat.zero_add, decide_true, decide_false, Bool.not_true, Bool.not_false, if_true, if_false, rEq, rNe, scal_ii, scal_ss, scal_bb, scal_is, scal_si, scal_ns, scal_ni, scal_in, scal_sn, scal_nn, rI, rI0, rU, rIxLH, rIxTH, rLenH, rLenTH, rSetL, rCatN, rTupOfN, rLstOfN, rSlLN, rSlTN, CDiv, CPow, CMul, CDivW, rNeNil, rLenO, rSplitN, rRepN, r_replC, rMulS, r_methK, rRepTN, r_cmK, rCmpO, Bool.false_xor, Bool.true_xor, r_starT, r_starL, r_cm, r_cval, selK_t, selK_f, rAppend, rIsK, reduceCtorEq, upd_same, at0, at1, at2, at3, at4, at5, at6, at7, at8, at9, at10, at11, at12, at13, ix3_0, ix3_1, ix3_2, V.int.injEq, V.bl.injEq, V.str.injEq, V.ref.injEq, Option.some.injEq, HO.lst.injEq, HO.tup.injEq, HO.ins.injEq, List.cons.injEq, and_true, true_and, exists_eq_left, exists_eq_left', exists_and_left, exists_eq', exists_eq, and_assoc, N_law_right]
          refine ⟨.str w, some (rowOf ps'), rfl, .inl ⟨w, rfl, by omega, hsome.symm⟩, fun ms p2 G8 er s8 hq _ hM2 => ?_, fun d fs G6 er => nomatch er⟩
          cases er
          have hp8 := s8 _ _ (n7.old hp1)
          have hp82 := s8 _ _ (n7.old hp2)
          obtain ⟨dy, t6', hq1, hq2⟩ := hq
          try simp only [cxK, r_lam, r_dnew, r_err, r_base, r_serr, r_var, r_c, r_seq, r_next, r_break, r_cont, r_drop, r_ret, r_retN, r_if, r_ife, r_asg, r_name, r_op, r_un, r_nil, r_cons, r_lst2, r_tup2, r_lc, r_for, r_ilist, r_itup, r_istr, r_irng1, r_irng2, r_ienum, r_ienumS, wipe, r_cb, r_test, r_b, r_not, r_notV, r_andV, r_orV, r_isN, r_notN, r_m1, r_m0, r_fld, sFld, putF, r_par, r_sub, r_gtup, r_gnil, r_gcons, r_sl, r_nopart, r_part, r_bm, r_bm0, r_chain, r_call, r_callK, r_meth, r_prop, r_make, r_and, r_or, andT_t, andT_f, orT_t, orT_f, ifK_t, ifK_f, ifE_t, ifE_f, andK_t, andK_f, orK_t, orK_f, L2.start, List.map_cons, List.map_nil, List.length_cons, List.length_nil, List.replicate_succ, List.replicate_zero, List.cons_append, List.nil_append, List.getElem?_cons_succ, List.getElem?_cons_zero, List.set_cons_succ, List.set_cons_zero, Nat.reduceAdd, Nat.reduceSub, Nat.zero_add, decide_true, decide_false, Bool.not_true, Bool.not_false, if_true, if_false, rEq, rNe, scal_ii, scal_ss, scal_bb, scal_is, scal_si, scal_ns, scal_ni, scal_in, scal_sn, scal_nn, rI, rI0, rU, rIxLH, rIxTH, rLenH, rLenTH, rSetL, rCatN, rTupOfN, rLstOfN, rSlLN, rSlTN, CDiv, CPow, CMul, CDivW, rNeNil, rLenO, rSplitN, rRepN, r_replC, rMulS, r_methK, rRepTN, r_cmK, rCmpO, Bool.false_xor, Bool.true_xor, r_starT, r_starL, r_cm, r_cval, selK_t, selK_f, rAppend, rIsK, reduceCtorEq, upd_same, at0, at1, at2, at3, at4, at5, at6, at7, at8, at9, at10, at11, at12, at13, ix3_0, ix3_1, ix3_2, V.int.injEq, V.bl.injEq, V.str.injEq, V.ref.injEq, Option.some.injEq, HO.lst.injEq, HO.tup.injEq, HO.ins.injEq, List.cons.injEq, and_true, true_and, exists_eq_left, exists_eq_left', exists_and_left, exists_eq', exists_eq, and_assoc, N_law_right, hp8, hq1]
          refine ⟨p2, p, _, _, rfl, ⟨dy, t6', hq1, hq2⟩, ⟨dx, t5, hp8, hp82⟩, hM2, hM, ?_⟩
          rw [decide_eq_true rfl]
          have s58 := same_trans s6 (same_trans n7.same s8)
          try simp only [cxK, r_lam, r_dnew, r_err, r_base, r_serr, r_var, r_c, r_seq, r_next, r_break, r_cont, r_drop, r_ret, r_retN, r_if, r_ife, r_asg, r_name, r_op, r_un, r_nil, r_cons, r_lst2, r_tup2, r_lc, r_for, r_ilist, r_itup, r_istr, r_irng1, r_irng2, r_ienum, r_ienumS, wipe, r_cb, r_test, r_b, r_not, r_notV, r_andV, r_orV, r_isN, r_notN, r_m1, r_m0, r_fld, sFld, putF, r_par, r_sub, r_gtup, r_gnil, r_gcons, r_sl, r_nopart, r_part, r_bm, r_bm0, r_chain, r_call, r_callK, r_meth, r_prop, r_make, r_and, r_or, andT_t, andT_f, orT_t, orT_f, ifK_t, ifK_f, ifE_t, ifE_f, andK_t, andK_f, orK_t, orK_f, L2.start, List.map_cons, List.map_nil, List.length_cons, List.length_nil, List.replicate_succ, List.replicate_zero, List.cons_append, List.nil_append, List.getElem?_cons_succ, List.getElem?_cons_zero, List.set_cons_succ, List.set_cons_zero, Nat.reduceAdd, Nat.reduceSub, Nat.zero_add, decide_true, decide_false, Bool.not_true, Bool.not_false, if_true, if_false, rEq, rNe, scal_ii, scal_ss, scal_bb, scal_is, scal_si, scal_ns, scal_ni, scal_in, scal_sn, scal_nn, rI, rI0, rU, rIxLH, rIxTH, rLenH, rLenTH, rSetL, rCatN, rTupOfN, rLstOfN, rSlLN, rSlTN, CDiv, CPow, CMul, CDivW, rNeNil, rLenO, rSplitN, rRepN, r_replC, rMulS, r_methK, rRepTN, r_cmK, rCmpO, Bool.false_xor, Bool.true_xor, r_starT, r_starL, r_cm, r_cval, selK_t, selK_f, rAppend, rIsK, reduceCtorEq, upd_same, at0, at1, at2, at3, at4, at5, at6, at7, at8, at9, at10, at11, at12, at13, ix3_0, ix3_1, ix3_2, V.int.injEq, V.bl.injEq, V.str.injEq, V.ref.injEq, Option.some.injEq, HO.lst.injEq, HO.tup.injEq, HO.ins.injEq, List.cons.injEq, and_true, true_and, exists_eq_left, exists_eq_left', exists_and_left, exists_eq', exists_eq, and_assoc, N_law_right]
          refine ⟨tabs_same t4 (same_trans s5 s58), fun G9 e9 t9 => TTinv.intro ?_⟩
          try simp only [cxK, r_lam, r_dnew, r_err, r_base, r_serr, r_var, r_c, r_seq, r_next, r_break, r_cont, r_drop, r_ret, r_retN, r_if, r_ife, r_asg, r_name, r_op, r_un, r_nil, r_cons, r_lst2, r_tup2, r_lc, r_for, r_ilist, r_itup, r_istr, r_irng1, r_irng2, r_ienum, r_ienumS, wipe, r_cb, r_test, r_b, r_not, r_notV, r_andV, r_orV, r_isN, r_notN, r_m1, r_m0, r_fld, sFld, putF, r_par, r_sub, r_gtup, r_gnil, r_gcons, r_sl, r_nopart, r_part, r_bm, r_bm0, r_chain, r_call, r_callK, r_meth, r_prop, r_make, r_and, r_or, andT_t, andT_f, orT_t, orT_f, ifK_t, ifK_f, ifE_t, ifE_f, andK_t, andK_f, orK_t, orK_f, L2.start, List.map_cons, List.map_nil, List.length_cons, List.length_nil, List.replicate_succ, List.replicate_zero, List.cons_append, List.nil_append, List.getElem?_cons_succ, List.getElem?_cons_zero, List.set_cons_succ, List.set_cons_zero, Nat.reduceAdd, Nat.reduceSub, Nat.zero_add, decide_true, decide_false, Bool.not_true, Bool.not_false, if_true, if_false, rEq, rNe, scal_ii, scal_ss, scal_bb, scal_is, scal_si, scal_ns, scal_ni, scal_in, scal_sn, scal_nn, rI, rI0, rU, rIxLH, rIxTH, rLenH, rLenTH, rSetL, rCatN, rTupOfN, rLstOfN, rSlLN, rSlTN, CDiv, CPow, CMul, CDivW, rNeNil, rLenO, rSplitN, rRepN, r_replC, rMulS, r_methK, rRepTN, r_cmK, rCmpO, Bool.false_xor, Bool.true_xor, r_starT, r_starL, r_cm, r_cval, selK_t, selK_f, rAppend, rIsK, reduceCtorEq, upd_same, at0, at1, at2, at3, at4, at5, at6, at7, at8, at9, at10, at11, at12, at13, ix3_0, ix3_1, ix3_2, V.int.injEq, V.bl.injEq, V.str.injEq, V.ref.injEq, Option.some.injEq, HO.lst.injEq, HO.tup.injEq, HO.ins.injEq, List.cons.injEq, and_true, true_and, exists_eq_left, exists_eq_left', exists_and_left, exists_eq', exists_eq, and_assoc, N_law_right]
          refine ⟨w, rfl, fits (by omega), parseK (w := cutS w (some 1) none) (by have := len_cut w (some 1) none; omega) fun G10 s10 => ?_⟩
          have ext := ext_trans e4 (ext_trans (ext_same (same_trans s5 s58)) (ext_trans e9 (ext_same s10)))
          by_cases c12 : cutS w (some 1) (some 2) = "/"
          · rw [if_pos ⟨c12, hk⟩] at htl
            rw [htl]
            try simp only [cxK, r_lam, r_dnew, r_err, r_base, r_serr, r_var, r_c, r_seq, r_next, r_break, r_cont, r_drop, r_ret, r_retN, r_if, r_ife, r_asg, r_name, r_op, r_un, r_nil, r_cons, r_lst2, r_tup2, r_lc, r_for, r_ilist, r_itup, r_istr, r_irng1, r_irng2, r_ienum, r_ienumS, wipe, r_cb, r_test, r_b, r_not, r_notV, r_andV, r_orV, r_isN, r_notN, r_m1, r_m0, r_fld, sFld, putF, r_par, r_sub, r_gtup, r_gnil, r_gcons, r_sl, r_nopart, r_part, r_bm, r_bm0, r_chain, r_call, r_callK, r_meth, r_prop, r_make, r_and, r_or, andT_t, andT_f, orT_t, orT_f, ifK_t, ifK_f, ifE_t, ifE_f, andK_t, andK_f, orK_t, orK_f, L2.start, List.map_cons, List.map_nil, List.length_cons, List.length_nil, List.replicate_succ, List.replicate_zero, List.cons_append, List.nil_append, List.getElem?_cons_succ, List.getElem?_cons_zero, List.set_cons_succ, List.set_cons_zero, Nat.reduceAdd, Nat.reduceSub, Nat.zero_add, decide_true, decide_false, Bool.not_true, Bool.not_false, if_true, if_false, rEq, rNe, scal_ii, scal_ss, scal_bb, scal_is, scal_si, scal_ns, scal_ni, scal_in, scal_sn, scal_nn, rI, rI0, rU, rIxLH, rIxTH, rLenH, rLenTH, rSetL, rCatN, rTupOfN, rLstOfN, rSlLN, rSlTN, CDiv, CPow, CMul, CDivW, rNeNil, rLenO, rSplitN, rRepN, r_replC, rMulS, r_methK, rRepTN, r_cmK, rCmpO, Bool.false_xor, Bool.true_xor, r_starT, r_starL, r_cm, r_cval, selK_t, selK_f, rAppend, rIsK, reduceCtorEq, upd_same, at0, at1, at2, at3, at4, at5, at6, at7, at8, at9, at10, at11, at12, at13, ix3_0, ix3_1, ix3_2, V.int.injEq, V.bl.injEq, V.str.injEq, V.ref.injEq, Option.some.injEq, HO.lst.injEq, HO.tup.injEq, HO.ins.injEq, List.cons.injEq, and_true, true_and, exists_eq_left, exists_eq_left', exists_and_left, exists_eq', exists_eq, and_assoc, N_law_right]
            refine ⟨w, rfl, fits (by omega), ?_⟩
            try simp only [cxK, r_lam, r_dnew, r_err, r_base, r_serr, r_var, r_c, r_seq, r_next, r_break, r_cont, r_drop, r_ret, r_retN, r_if, r_ife, r_asg, r_name, r_op, r_un, r_nil, r_cons, r_lst2, r_tup2, r_lc, r_for, r_ilist, r_itup, r_istr, r_irng1, r_irng2, r_ienum, r_ienumS, wipe, r_cb, r_test, r_b, r_not, r_notV, r_andV, r_orV, r_isN, r_notN, r_m1, r_m0, r_fld, sFld, putF, r_par, r_sub, r_gtup, r_gnil, r_gcons, r_sl, r_nopart, r_part, r_bm, r_bm0, r_chain, r_call, r_callK, r_meth, r_prop, r_make, r_and, r_or, andT_t, andT_f, orT_t, orT_f, ifK_t, ifK_f, ifE_t, ifE_f, andK_t, andK_f, orK_t, orK_f, L2.start, List.map_cons, List.map_nil, List.length_cons, List.length_nil, List.replicate_succ, List.replicate_zero, List.cons_append, List.nil_append, List.getElem?_cons_succ, List.getElem?_cons_zero, List.set_cons_succ, List.set_cons_zero, Nat.reduceAdd, Nat.reduceSub, Nat.zero_add, decide_true, decide_false, Bool.not_true, Bool.not_false, if_true, if_false, rEq, rNe, scal_ii, scal_ss, scal_bb, scal_is, scal_si, scal_ns, scal_ni, scal_in, scal_sn, scal_nn, rI, rI0, rU, rIxLH, rIxTH, rLenH, rLenTH, rSetL, rCatN, rTupOfN, rLstOfN, rSlLN, rSlTN, CDiv, CPow, CMul, CDivW, rNeNil, rLenO, rSplitN, rRepN, r_replC, rMulS, r_methK, rRepTN, r_cmK, rCmpO, Bool.false_xor, Bool.true_xor, r_starT, r_starL, r_cm, r_cval, selK_t, selK_f, rAppend, rIsK, reduceCtorEq, upd_same, at0, at1, at2, at3, at4, at5, at6, at7, at8, at9, at10, at11, at12, at13, ix3_0, ix3_1, ix3_2, V.int.injEq, V.bl.injEq, V.str.injEq, V.ref.injEq, Option.some.injEq, HO.lst.injEq, HO.tup.injEq, HO.ins.injEq, List.cons.injEq, and_true, true_and, exists_eq_left, exists_eq_left', exists_and_left, exists_eq', exists_eq, and_assoc, N_law_right, c12]
            exact fin G10 ext (tabs_same t9 s10)
          · rw [if_neg (fun h => c12 h.1)] at htl
            rw [htl]
            try simp only [cxK, r_lam, r_dnew, r_err, r_base, r_serr, r_var, r_c, r_seq, r_next, r_break, r_cont, r_drop, r_ret, r_retN, r_if, r_ife, r_asg, r_name, r_op, r_un, r_nil, r_cons, r_lst2, r_tup2, r_lc, r_for, r_ilist, r_itup, r_istr, r_irng1, r_irng2, r_ienum, r_ienumS, wipe, r_cb, r_test, r_b, r_not, r_notV, r_andV, r_orV, r_isN, r_notN, r_m1, r_m0, r_fld, sFld, putF, r_par, r_sub, r_gtup, r_gnil, r_gcons, r_sl, r_nopart, r_part, r_bm, r_bm0, r_chain, r_call, r_callK, r_meth, r_prop, r_make, r_and, r_or, andT_t, andT_f, orT_t, orT_f, ifK_t, ifK_f, ifE_t, ifE_f, andK_t, andK_f, orK_t, orK_f, L2.start, List.map_cons, List.map_nil, List.length_cons, List.length_nil, List.replicate_succ, List.replicate_zero, List.cons_append, List.nil_append, List.getElem?_cons_succ, List.getElem?_cons_zero, List.set_cons_succ, List.set_cons_zero, Nat.reduceAdd, Nat.reduceSub, Nat.zero_add, decide_true, decide_false, Bool.not_true, Bool.not_false, if_true, if_false, rEq, rNe, scal_ii, scal_ss, scal_bb, scal_is, scal_si, scal_ns, scal_ni, scal_in, scal_sn, scal_nn, rI, rI0, rU, rIxLH, rIxTH, rLenH, rLenTH, rSetL, rCatN, rTupOfN, rLstOfN, rSlLN, rSlTN, CDiv, CPow, CMul, CDivW, rNeNil, rLenO, rSplitN, rRepN, r_replC, rMulS, r_methK, rRepTN, r_cmK, rCmpO, Bool.false_xor, Bool.true_xor, r_starT, r_starL, r_cm, r_cval, selK_t, selK_f, rAppend, rIsK, reduceCtorEq, upd_same, at0, at1, at2, at3, at4, at5, at6, at7, at8, at9, at10, at11, at12, at13, ix3_0, ix3_1, ix3_2, V.int.injEq, V.bl.injEq, V.str.injEq, V.ref.injEq, Option.some.injEq, HO.lst.injEq, HO.tup.injEq, HO.ins.injEq, List.cons.injEq, and_true, true_and, exists_eq_left, exists_eq_left', exists_and_left, exists_eq', exists_eq, and_assoc, N_law_right]
            refine ⟨w, rfl, fits (by omega), ?_⟩
            try simp only [cxK, r_lam, r_dnew, r_err, r_base, r_serr, r_var, r_c, r_seq, r_next, r_break, r_cont, r_drop, r_ret, r_retN, r_if, r_ife, r_asg, r_name, r_op, r_un, r_nil, r_cons, r_lst2, r_tup2, r_lc, r_for, r_ilist, r_itup, r_istr, r_irng1, r_irng2, r_ienum, r_ienumS, wipe, r_cb, r_test, r_b, r_not, r_notV, r_andV, r_orV, r_isN, r_notN, r_m1, r_m0, r_fld, sFld, putF, r_par, r_sub, r_gtup, r_gnil, r_gcons, r_sl, r_nopart, r_part, r_bm, r_bm0, r_chain, r_call, r_callK, r_meth, r_prop, r_make, r_and, r_or, andT_t, andT_f, orT_t, orT_f, ifK_t, ifK_f, ifE_t, ifE_f, andK_t, andK_f, orK_t, orK_f, L2.start, List.map_cons, List.map_nil, List.length_cons, List.length_nil, List.replicate_succ, List.replicate_zero, List.cons_append, List.nil_append, List.getElem?_cons_succ, List.getElem?_cons_zero, List.set_cons_succ, List.set_cons_zero, Nat.reduceAdd, Nat.reduceSub, Nat.zero_add, decide_true, decide_false, Bool.not_true, Bool.not_false, if_true, if_false, rEq, rNe, scal_ii, scal_ss, scal_bb, scal_is, scal_si, scal_ns, scal_ni, scal_in, scal_sn, scal_nn, rI, rI0, rU, rIxLH, rIxTH, rLenH, rLenTH, rSetL, rCatN, rTupOfN, rLstOfN, rSlLN, rSlTN, CDiv, CPow, CMul, CDivW, rNeNil, rLenO, rSplitN, rRepN, r_replC, rMulS, r_methK, rRepTN, r_cmK, rCmpO, Bool.false_xor, Bool.true_xor, r_starT, r_starL, r_cm, r_cval, selK_t, selK_f, rAppend, rIsK, reduceCtorEq, upd_same, at0, at1, at2, at3, at4, at5, at6, at7, at8, at9, at10, at11, at12, at13, ix3_0, ix3_1, ix3_2, V.int.injEq, V.bl.injEq, V.str.injEq, V.ref.injEq, Option.some.injEq, HO.lst.injEq, HO.tup.injEq, HO.ins.injEq, List.cons.injEq, and_true, true_and, exists_eq_left, exists_eq_left', exists_and_left, exists_eq', exists_eq, and_assoc, N_law_right, c12]
            exact fin G10 ext (tabs_same t9 s10)
        · have hk : okS (namesIn w) = "path" := by
            rw [hwl, if_pos (by omega)]
            rfl
          try simp only [cxK, r_lam, r_dnew, r_err, r_base, r_serr, r_var, r_c, r_seq, r_next, r_break, r_cont, r_drop, r_ret, r_retN, r_if, r_ife, r_asg, r_name, r_op, r_un, r_nil, r_cons, r_lst2, r_tup2, r_lc, r_for, r_ilist, r_itup, r_istr, r_irng1, r_irng2, r_ienum, r_ienumS, wipe, r_cb, r_test, r_b, r_not, r_notV, r_andV, r_orV, r_isN, r_notN, r_m1, r_m0, r_fld, sFld, putF, r_par, r_sub, r_gtup, r_gnil, r_gcons, r_sl, r_nopart, r_part, r_bm, r_bm0, r_chain, r_call, r_callK, r_meth, r_prop, r_make, r_and, r_or, andT_t, andT_f, orT_t, orT_f, ifK_t, ifK_f, ifE_t, ifE_f, andK_t, andK_f, orK_t, orK_f, L2.start, List.map_cons, List.map_nil, List.length_cons, List.length_nil, List.replicate_succ, List.replicate_zero, List.cons_append, List.nil_append, List.getElem?_cons_succ, List.getElem?_cons_zero, List.set_cons_succ, List.set_cons_zero, Nat.reduceAdd, Nat.reduceSub, Nat.zero_add, decide_true, decide_false, Bool.not_true, Bool.not_false, if_true, if_false, rEq, rNe, scal_ii, scal_ss, scal_bb, scal_is, scal_si, scal_ns, scal_ni, scal_in, scal_sn, scal_nn, rI, rI0, rU, rIxLH, rIxTH, rLenH, rLenTH, rSetL, rCatN, rTupOfN, rLstOfN, rSlLN, rSlTN, CDiv, CPow, CMul, CDivW, rNeNil, rLenO, rSplitN, rRepN, r_replC, rMulS, r_methK, rRepTN, r_cmK, rCmpO, Bool.false_xor, Bool.true_xor, r_starT, r_starL, r_cm, r_cval, selK_t, selK_f, rAppend, rIsK, reduceCtorEq, upd_same, at0, at1, at2, at3, at4, at5, at6, at7, at8, at9, at10, at11, at12, at13, ix3_0, ix3_1, ix3_2, V.int.injEq, V.bl.injEq, V.str.injEq, V.ref.injEq, Option.some.injEq, HO.lst.injEq, HO.tup.injEq, HO.ins.injEq, List.cons.injEq, and_true, true_and, exists_eq_left, exists_eq_left', exists_and_left, exists_eq', exists_eq, and_assoc, N_law_right, h200]
          refine ⟨tG3, fun G4 e4 t4 => TTinv.intro ?_⟩
          try simp only [cxK, r_lam, r_dnew, r_err, r_base, r_serr, r_var, r_c, r_seq, r_next, r_break, r_cont, r_drop, r_ret, r_retN, r_if, r_ife, r_asg, r_name, r_op, r_un, r_nil, r_cons, r_lst2, r_tup2, r_lc, r_for, r_ilist, r_itup, r_istr, r_irng1, r_irng2, r_ienum, r_ienumS, wipe, r_cb, r_test, r_b, r_not, r_notV, r_andV, r_orV, r_isN, r_notN, r_m1, r_m0, r_fld, sFld, putF, r_par, r_sub, r_gtup, r_gnil, r_gcons, r_sl, r_nopart, r_part, r_bm, r_bm0, r_chain, r_call, r_callK, r_meth, r_prop, r_make, r_and, r_or, andT_t, andT_f, orT_t, orT_f, ifK_t, ifK_f, ifE_t, ifE_f, andK_t, andK_f, orK_t, orK_f, L2.start, List.map_cons, List.map_nil, List.length_cons, List.length_nil, List.replicate_succ, List.replicate_zero, List.cons_append, List.nil_append, List.getElem?_cons_succ, List.getElem?_cons_zero, List.set_cons_succ, List.set_cons_zero, Nat.reduceAdd, Nat.reduceSub, Nat.zero_add, decide_true, decide_false, Bool.not_true, Bool.not_false, if_true, if_false, rEq, rNe, scal_ii, scal_ss, scal_bb, scal_is, scal_si, scal_ns, scal_ni, scal_in, scal_sn, scal_nn, rI, rI0, rU, rIxLH, rIxTH, rLenH, rLenTH, rSetL, rCatN, rTupOfN, rLstOfN, rSlLN, rSlTN, CDiv, CPow, CMul, CDivW, rNeNil, rLenO, rSplitN, rRepN, r_replC, rMulS, r_methK, rRepTN, r_cmK, rCmpO, Bool.false_xor, Bool.true_xor, r_starT, r_starL, r_cm, r_cval, selK_t, selK_f, rAppend, rIsK, reduceCtorEq, upd_same, at0, at1, at2, at3, at4, at5, at6, at7, at8, at9, at10, at11, at12, at13, ix3_0, ix3_1, ix3_2, V.int.injEq, V.bl.injEq, V.str.injEq, V.ref.injEq, Option.some.injEq, HO.lst.injEq, HO.tup.injEq, HO.ins.injEq, List.cons.injEq, and_true, true_and, exists_eq_left, exists_eq_left', exists_and_left, exists_eq', exists_eq, and_assoc, N_law_right]
          refine parseK (w := w) (by omega) fun G5 s5 => ?_
          rw [hk]
          try simp only [cxK, r_lam, r_dnew, r_err, r_base, r_serr, r_var, r_c, r_seq, r_next, r_break, r_cont, r_drop, r_ret, r_retN, r_if, r_ife, r_asg, r_name, r_op, r_un, r_nil, r_cons, r_lst2, r_tup2, r_lc, r_for, r_ilist, r_itup, r_istr, r_irng1, r_irng2, r_ienum, r_ienumS, wipe, r_cb, r_test, r_b, r_not, r_notV, r_andV, r_orV, r_isN, r_notN, r_m1, r_m0, r_fld, sFld, putF, r_par, r_sub, r_gtup, r_gnil, r_gcons, r_sl, r_nopart, r_part, r_bm, r_bm0, r_chain, r_call, r_callK, r_meth, r_prop, r_make, r_and, r_or, andT_t, andT_f, orT_t, orT_f, ifK_t, ifK_f, ifE_t, ifE_f, andK_t, andK_f, orK_t, orK_f, L2.start, List.map_cons, List.map_nil, List.length_cons, List.length_nil, List.replicate_succ, List.replicate_zero, List.cons_append, List.nil_append, List.getElem?_cons_succ, List.getElem?_cons_zero, List.set_cons_succ, List.set_cons_zero, Nat.reduceAdd, Nat.reduceSub, Nat.zero_add, decide_true, decide_false, Bool.not_true, Bool.not_false, if_true, if_false, rEq, rNe, scal_ii, scal_ss, scal_bb, scal_is, scal_si, scal_ns, scal_ni, scal_in, scal_sn, scal_nn, rI, rI0, rU, rIxLH, rIxTH, rLenH, rLenTH, rSetL, rCatN, rTupOfN, rLstOfN, rSlLN, rSlTN, CDiv, CPow, CMul, CDivW, rNeNil, rLenO, rSplitN, rRepN, r_replC, rMulS, r_methK, rRepTN, r_cmK, rCmpO, Bool.false_xor, Bool.true_xor, r_starT, r_starL, r_cm, r_cval, selK_t, selK_f, rAppend, rIsK, reduceCtorEq, upd_same, at0, at1, at2, at3, at4, at5, at6, at7, at8, at9, at10, at11, at12, at13, ix3_0, ix3_1, ix3_2, V.int.injEq, V.bl.injEq, V.str.injEq, V.ref.injEq, Option.some.injEq, HO.lst.injEq, HO.tup.injEq, HO.ins.injEq, List.cons.injEq, and_true, true_and, exists_eq_left, exists_eq_left', exists_and_left, exists_eq', exists_eq, and_assoc, N_law_right]
          refine ⟨tabs_same t4 s5, fun G6 e6 t6 => TTinv.intro ?_⟩
          try simp only [cxK, r_lam, r_dnew, r_err, r_base, r_serr, r_var, r_c, r_seq, r_next, r_break, r_cont, r_drop, r_ret, r_retN, r_if, r_ife, r_asg, r_name, r_op, r_un, r_nil, r_cons, r_lst2, r_tup2, r_lc, r_for, r_ilist, r_itup, r_istr, r_irng1, r_irng2, r_ienum, r_ienumS, wipe, r_cb, r_test, r_b, r_not, r_notV, r_andV, r_orV, r_isN, r_notN, r_m1, r_m0, r_fld, sFld, putF, r_par, r_sub, r_gtup, r_gnil, r_gcons, r_sl, r_nopart, r_part, r_bm, r_bm0, r_chain, r_call, r_callK, r_meth, r_prop, r_make, r_and, r_or, andT_t, andT_f, orT_t, orT_f, ifK_t, ifK_f, ifE_t, ifE_f, andK_t, andK_f, orK_t, orK_f, L2.start, List.map_cons, List.map_nil, List.length_cons, List.length_nil, List.replicate_succ, List.replicate_zero, List.cons_append, List.nil_append, List.getElem?_cons_succ, List.getElem?_cons_zero, List.set_cons_succ, List.set_cons_zero, Nat.reduceAdd, Nat.reduceSub, Nat.zero_add, decide_true, decide_false, Bool.not_true, Bool.not_false, if_true, if_false, rEq, rNe, scal_ii, scal_ss, scal_bb, scal_is, scal_si, scal_ns, scal_ni, scal_in, scal_sn, scal_nn, rI, rI0, rU, rIxLH, rIxTH, rLenH, rLenTH, rSetL, rCatN, rTupOfN, rLstOfN, rSlLN, rSlTN, CDiv, CPow, CMul, CDivW, rNeNil, rLenO, rSplitN, rRepN, r_replC, rMulS, r_methK, rRepTN, r_cmK, rCmpO, Bool.false_xor, Bool.true_xor, r_starT, r_starL, r_cm, r_cval, selK_t, selK_f, rAppend, rIsK, reduceCtorEq, upd_same, at0, at1, at2, at3, at4, at5, at6, at7, at8, at9, at10, at11, at12, at13, ix3_0, ix3_1, ix3_2, V.int.injEq, V.bl.injEq, V.str.injEq, V.ref.injEq, Option.some.injEq, HO.lst.injEq, HO.tup.injEq, HO.ins.injEq, List.cons.injEq, and_true, true_and, exists_eq_left, exists_eq_left', exists_and_left, exists_eq', exists_eq, and_assoc, N_law_right]
          refine ⟨w, rfl, fits (by omega), parseK (w := cutS w (some 1) none) (by have := len_cut w (some 1) none; omega) fun G7 s7 => ?_⟩
          rw [hk] at htl
          rw [if_neg (fun h => absurd h.2 (by decide))] at htl
          rw [htl]
          try simp only [cxK, r_lam, r_dnew, r_err, r_base, r_serr, r_var, r_c, r_seq, r_next, r_break, r_cont, r_drop, r_ret, r_retN, r_if, r_ife, r_asg, r_name, r_op, r_un, r_nil, r_cons, r_lst2, r_tup2, r_lc, r_for, r_ilist, r_itup, r_istr, r_irng1, r_irng2, r_ienum, r_ienumS, wipe, r_cb, r_test, r_b, r_not, r_notV, r_andV, r_orV, r_isN, r_notN, r_m1, r_m0, r_fld, sFld, putF, r_par, r_sub, r_gtup, r_gnil, r_gcons, r_sl, r_nopart, r_part, r_bm, r_bm0, r_chain, r_call, r_callK, r_meth, r_prop, r_make, r_and, r_or, andT_t, andT_f, orT_t, orT_f, ifK_t, ifK_f, ifE_t, ifE_f, andK_t, andK_f, orK_t, orK_f, L2.start, List.map_cons, List.map_nil, List.length_cons, List.length_nil, List.replicate_succ, List.replicate_zero, List.cons_append, List.nil_append, List.getElem?_cons_succ, List.getElem?_cons_zero, List.set_cons_succ, List.set_cons_zero, Nat.reduceAdd, Nat.reduceSub, Nat.zero_add, decide_true, decide_false, Bool.not_true, Bool.not_false, if_true, if_false, rEq, rNe, scal_ii, scal_ss, scal_bb, scal_is, scal_si, scal_ns, scal_ni, scal_in, scal_sn, scal_nn, rI, rI0, rU, rIxLH, rIxTH, rLenH, rLenTH, rSetL, rCatN, rTupOfN, rLstOfN, rSlLN, rSlTN, CDiv, CPow, CMul, CDivW, rNeNil, rLenO, rSplitN, rRepN, r_replC, rMulS, r_methK, rRepTN, r_cmK, rCmpO, Bool.false_xor, Bool.true_xor, r_starT, r_starL, r_cm, r_cval, selK_t, selK_f, rAppend, rIsK, reduceCtorEq, upd_same, at0, at1, at2, at3, at4, at5, at6, at7, at8, at9, at10, at11, at12, at13, ix3_0, ix3_1, ix3_2, V.int.injEq, V.bl.injEq, V.str.injEq, V.ref.injEq, Option.some.injEq, HO.lst.injEq, HO.tup.injEq, HO.ins.injEq, List.cons.injEq, and_true, true_and, exists_eq_left, exists_eq_left', exists_and_left, exists_eq', exists_eq, and_assoc, N_law_right]
          refine ⟨w, rfl, fits (by omega), ?_⟩
          by_cases c12 : cutS w (some 1) (some 2) = "/"
          · have nd : (PySem.Str.ofString "path" = PySem.Str.ofString "") = False := eq_false (by decide)
            try simp only [cxK, r_lam, r_dnew, r_err, r_base, r_serr, r_var, r_c, r_seq, r_next, r_break, r_cont, r_drop, r_ret, r_retN, r_if, r_ife, r_asg, r_name, r_op, r_un, r_nil, r_cons, r_lst2, r_tup2, r_lc, r_for, r_ilist, r_itup, r_istr, r_irng1, r_irng2, r_ienum, r_ienumS, wipe, r_cb, r_test, r_b, r_not, r_notV, r_andV, r_orV, r_isN, r_notN, r_m1, r_m0, r_fld, sFld, putF, r_par, r_sub, r_gtup, r_gnil, r_gcons, r_sl, r_nopart, r_part, r_bm, r_bm0, r_chain, r_call, r_callK, r_meth, r_prop, r_make, r_and, r_or, andT_t, andT_f, orT_t, orT_f, ifK_t, ifK_f, ifE_t, ifE_f, andK_t, andK_f, orK_t, orK_f, L2.start, List.map_cons, List.map_nil, List.length_cons, List.length_nil, List.replicate_succ, List.replicate_zero, List.cons_append, List.nil_append, List.getElem?_cons_succ, List.getElem?_cons_zero, List.set_cons_succ, List.set_cons_zero, Nat.reduceAdd, Nat.reduceSub, Nat.zero_add, decide_true, decide_false, Bool.not_true, Bool.not_false, if_true, if_false, rEq, rNe, scal_ii, scal_ss, scal_bb, scal_is, scal_si, scal_ns, scal_ni, scal_in, scal_sn, scal_nn, rI, rI0, rU, rIxLH, rIxTH, rLenH, rLenTH, rSetL, rCatN, rTupOfN, rLstOfN, rSlLN, rSlTN, CDiv, CPow, CMul, CDivW, rNeNil, rLenO, rSplitN, rRepN, r_replC, rMulS, r_methK, rRepTN, r_cmK, rCmpO, Bool.false_xor, Bool.true_xor, r_starT, r_starL, r_cm, r_cval, selK_t, selK_f, rAppend, rIsK, reduceCtorEq, upd_same, at0, at1, at2, at3, at4, at5, at6, at7, at8, at9, at10, at11, at12, at13, ix3_0, ix3_1, ix3_2, V.int.injEq, V.bl.injEq, V.str.injEq, V.ref.injEq, Option.some.injEq, HO.lst.injEq, HO.tup.injEq, HO.ins.injEq, List.cons.injEq, and_true, true_and, exists_eq_left, exists_eq_left', exists_and_left, exists_eq', exists_eq, and_assoc, N_law_right, c12, nd]
            exact fin G7 (ext_trans e4 (ext_trans (ext_same s5) (ext_trans e6 (ext_same s7)))) (tabs_same t6 s7)
          · try simp only [cxK, r_lam, r_dnew, r_err, r_base, r_serr, r_var, r_c, r_seq, r_next, r_break, r_cont, r_drop, r_ret, r_retN, r_if, r_ife, r_asg, r_name, r_op, r_un, r_nil, r_cons, r_lst2, r_tup2, r_lc, r_for, r_ilist, r_itup, r_istr, r_irng1, r_irng2, r_ienum, r_ienumS, wipe, r_cb, r_test, r_b, r_not, r_notV, r_andV, r_orV, r_isN, r_notN, r_m1, r_m0, r_fld, sFld, putF, r_par, r_sub, r_gtup, r_gnil, r_gcons, r_sl, r_nopart, r_part, r_bm, r_bm0, r_chain, r_call, r_callK, r_meth, r_prop, r_make, r_and, r_or, andT_t, andT_f, orT_t, orT_f, ifK_t, ifK_f, ifE_t, ifE_f, andK_t, andK_f, orK_t, orK_f, L2.start, List.map_cons, List.map_nil, List.length_cons, List.length_nil, List.replicate_succ, List.replicate_zero, List.cons_append, List.nil_append, List.getElem?_cons_succ, List.getElem?_cons_zero, List.set_cons_succ, List.set_cons_zero, Nat.reduceAdd, Nat.reduceSub, Nat.zero_add, decide_true, decide_false, Bool.not_true, Bool.not_false, if_true, if_false, rEq, rNe, scal_ii, scal_ss, scal_bb, scal_is, scal_si, scal_ns, scal_ni, scal_in, scal_sn, scal_nn, rI, rI0, rU, rIxLH, rIxTH, rLenH, rLenTH, rSetL, rCatN, rTupOfN, rLstOfN, rSlLN, rSlTN, CDiv, CPow, CMul, CDivW, rNeNil, rLenO, rSplitN, rRepN, r_replC, rMulS, r_methK, rRepTN, r_cmK, rCmpO, Bool.false_xor, Bool.true_xor, r_starT, r_starL, r_cm, r_cval, selK_t, selK_f, rAppend, rIsK, reduceCtorEq, upd_same, at0, at1, at2, at3, at4, at5, at6, at7, at8, at9, at10, at11, at12, at13, ix3_0, ix3_1, ix3_2, V.int.injEq, V.bl.injEq, V.str.injEq, V.ref.injEq, Option.some.injEq, HO.lst.injEq, HO.tup.injEq, HO.ins.injEq, List.cons.injEq, and_true, true_and, exists_eq_left, exists_eq_left', exists_and_left, exists_eq', exists_eq, and_assoc, N_law_right, c12]
            exact fin G7 (ext_trans e4 (ext_trans (ext_same s5) (ext_trans e6 (ext_same s7)))) (tabs_same t6 s7)
      · have q12 : ¬ (rowOf ps').length ≤ 12 := fun z => r12 (by rw [List.length_map]; omega)
        have hk : okS (namesIn w) = "path" := by
          rw [hwl]
          split
          · rfl
          · show okS (if (rowOf ps').length ≤ 12 then _ else none) = _
            rw [if_neg q12]
            rfl
        try simp only [cxK, r_lam, r_dnew, r_err, r_base, r_serr, r_var, r_c, r_seq, r_next, r_break, r_cont, r_drop, r_ret, r_retN, r_if, r_ife, r_asg, r_name, r_op, r_un, r_nil, r_cons, r_lst2, r_tup2, r_lc, r_for, r_ilist, r_itup, r_istr, r_irng1, r_irng2, r_ienum, r_ienumS, wipe, r_cb, r_test, r_b, r_not, r_notV, r_andV, r_orV, r_isN, r_notN, r_m1, r_m0, r_fld, sFld, putF, r_par, r_sub, r_gtup, r_gnil, r_gcons, r_sl, r_nopart, r_part, r_bm, r_bm0, r_chain, r_call, r_callK, r_meth, r_prop, r_make, r_and, r_or, andT_t, andT_f, orT_t, orT_f, ifK_t, ifK_f, ifE_t, ifE_f, andK_t, andK_f, orK_t, orK_f, L2.start, List.map_cons, List.map_nil, List.length_cons, List.length_nil, List.replicate_succ, List.replicate_zero, List.cons_append, List.nil_append, List.getElem?_cons_succ, List.getElem?_cons_zero, List.set_cons_succ, List.set_cons_zero, Nat.reduceAdd, Nat.reduceSub, Nat.zero_add, decide_true, decide_false, Bool.not_true, Bool.not_false, if_true, if_false, rEq, rNe, scal_ii, scal_ss, scal_bb, scal_is, scal_si, scal_ns, scal_ni, scal_in, scal_sn, scal_nn, rI, rI0, rU, rIxLH, rIxTH, rLenH, rLenTH, rSetL, rCatN, rTupOfN, rLstOfN, rSlLN, rSlTN, CDiv, CPow, CMul, CDivW, rNeNil, rLenO, rSplitN, rRepN, r_replC, rMulS, r_methK, rRepTN, r_cmK, rCmpO, Bool.false_xor, Bool.true_xor, r_starT, r_starL, r_cm, r_cval, selK_t, selK_f, rAppend, rIsK, reduceCtorEq, upd_same, at0, at1, at2, at3, at4, at5, at6, at7, at8, at9, at10, at11, at12, at13, ix3_0, ix3_1, ix3_2, V.int.injEq, V.bl.injEq, V.str.injEq, V.ref.injEq, Option.some.injEq, HO.lst.injEq, HO.tup.injEq, HO.ins.injEq, List.cons.injEq, and_true, true_and, exists_eq_left, exists_eq_left', exists_and_left, exists_eq', exists_eq, and_assoc, N_law_right, r12]
        refine ⟨tG3, fun G4 e4 t4 => TTinv.intro ?_⟩
        try simp only [cxK, r_lam, r_dnew, r_err, r_base, r_serr, r_var, r_c, r_seq, r_next, r_break, r_cont, r_drop, r_ret, r_retN, r_if, r_ife, r_asg, r_name, r_op, r_un, r_nil, r_cons, r_lst2, r_tup2, r_lc, r_for, r_ilist, r_itup, r_istr, r_irng1, r_irng2, r_ienum, r_ienumS, wipe, r_cb, r_test, r_b, r_not, r_notV, r_andV, r_orV, r_isN, r_notN, r_m1, r_m0, r_fld, sFld, putF, r_par, r_sub, r_gtup, r_gnil, r_gcons, r_sl, r_nopart, r_part, r_bm, r_bm0, r_chain, r_call, r_callK, r_meth, r_prop, r_make, r_and, r_or, andT_t, andT_f, orT_t, orT_f, ifK_t, ifK_f, ifE_t, ifE_f, andK_t, andK_f, orK_t, orK_f, L2.start, List.map_cons, List.map_nil, List.length_cons, List.length_nil, List.replicate_succ, List.replicate_zero, List.cons_append, List.nil_append, List.getElem?_cons_succ, List.getElem?_cons_zero, List.set_cons_succ, List.set_cons_zero, Nat.reduceAdd, Nat.reduceSub, Nat.zero_add, decide_true, decide_false, Bool.not_true, Bool.not_false, if_true, if_false, rEq, rNe, scal_ii, scal_ss, scal_bb, scal_is, scal_si, scal_ns, scal_ni, scal_in, scal_sn, scal_nn, rI, rI0, rU, rIxLH, rIxTH, rLenH, rLenTH, rSetL, rCatN, rTupOfN, rLstOfN, rSlLN, rSlTN, CDiv, CPow, CMul, CDivW, rNeNil, rLenO, rSplitN, rRepN, r_replC, rMulS, r_methK, rRepTN, r_cmK, rCmpO, Bool.false_xor, Bool.true_xor, r_starT, r_starL, r_cm, r_cval, selK_t, selK_f, rAppend, rIsK, reduceCtorEq, upd_same, at0, at1, at2, at3, at4, at5, at6, at7, at8, at9, at10, at11, at12, at13, ix3_0, ix3_1, ix3_2, V.int.injEq, V.bl.injEq, V.str.injEq, V.ref.injEq, Option.some.injEq, HO.lst.injEq, HO.tup.injEq, HO.ins.injEq, List.cons.injEq, and_true, true_and, exists_eq_left, exists_eq_left', exists_and_left, exists_eq', exists_eq, and_assoc, N_law_right]
        refine parseK (w := w) (by omega) fun G5 s5 => ?_
        rw [hk]
        try simp only [cxK, r_lam, r_dnew, r_err, r_base, r_serr, r_var, r_c, r_seq, r_next, r_break, r_cont, r_drop, r_ret, r_retN, r_if, r_ife, r_asg, r_name, r_op, r_un, r_nil, r_cons, r_lst2, r_tup2, r_lc, r_for, r_ilist, r_itup, r_istr, r_irng1, r_irng2, r_ienum, r_ienumS, wipe, r_cb, r_test, r_b, r_not, r_notV, r_andV, r_orV, r_isN, r_notN, r_m1, r_m0, r_fld, sFld, putF, r_par, r_sub, r_gtup, r_gnil, r_gcons, r_sl, r_nopart, r_part, r_bm, r_bm0, r_chain, r_call, r_callK, r_meth, r_prop, r_make, r_and, r_or, andT_t, andT_f, orT_t, orT_f, ifK_t, ifK_f, ifE_t, ifE_f, andK_t, andK_f, orK_t, orK_f, L2.start, List.map_cons, List.map_nil, List.length_cons, List.length_nil, List.replicate_succ, List.replicate_zero, List.cons_append, List.nil_append, List.getElem?_cons_succ, List.getElem?_cons_zero, List.set_cons_succ, List.set_cons_zero, Nat.reduceAdd, Nat.reduceSub, Nat.zero_add, decide_true, decide_false, Bool.not_true, Bool.not_false, if_true, if_false, rEq, rNe, scal_ii, scal_ss, scal_bb, scal_is, scal_si, scal_ns, scal_ni, scal_in, scal_sn, scal_nn, rI, rI0, rU, rIxLH, rIxTH, rLenH, rLenTH, rSetL, rCatN, rTupOfN, rLstOfN, rSlLN, rSlTN, CDiv, CPow, CMul, CDivW, rNeNil, rLenO, rSplitN, rRepN, r_replC, rMulS, r_methK, rRepTN, r_cmK, rCmpO, Bool.false_xor, Bool.true_xor, r_starT, r_starL, r_cm, r_cval, selK_t, selK_f, rAppend, rIsK, reduceCtorEq, upd_same, at0, at1, at2, at3, at4, at5, at6, at7, at8, at9, at10, at11, at12, at13, ix3_0, ix3_1, ix3_2, V.int.injEq, V.bl.injEq, V.str.injEq, V.ref.injEq, Option.some.injEq, HO.lst.injEq, HO.tup.injEq, HO.ins.injEq, List.cons.injEq, and_true, true_and, exists_eq_left, exists_eq_left', exists_and_left, exists_eq', exists_eq, and_assoc, N_law_right]
        refine ⟨tabs_same t4 s5, fun G6 e6 t6 => TTinv.intro ?_⟩
        try simp only [cxK, r_lam, r_dnew, r_err, r_base, r_serr, r_var, r_c, r_seq, r_next, r_break, r_cont, r_drop, r_ret, r_retN, r_if, r_ife, r_asg, r_name, r_op, r_un, r_nil, r_cons, r_lst2, r_tup2, r_lc, r_for, r_ilist, r_itup, r_istr, r_irng1, r_irng2, r_ienum, r_ienumS, wipe, r_cb, r_test, r_b, r_not, r_notV, r_andV, r_orV, r_isN, r_notN, r_m1, r_m0, r_fld, sFld, putF, r_par, r_sub, r_gtup, r_gnil, r_gcons, r_sl, r_nopart, r_part, r_bm, r_bm0, r_chain, r_call, r_callK, r_meth, r_prop, r_make, r_and, r_or, andT_t, andT_f, orT_t, orT_f, ifK_t, ifK_f, ifE_t, ifE_f, andK_t, andK_f, orK_t, orK_f, L2.start, List.map_cons, List.map_nil, List.length_cons, List.length_nil, List.replicate_succ, List.replicate_zero, List.cons_append, List.nil_append, List.getElem?_cons_succ, List.getElem?_cons_zero, List.set_cons_succ, List.set_cons_zero, Nat.reduceAdd, Nat.reduceSub, Nat.zero_add, decide_true, decide_false, Bool.not_true, Bool.not_false, if_true, if_false, rEq, rNe, scal_ii, scal_ss, scal_bb, scal_is, scal_si, scal_ns, scal_ni, scal_in, scal_sn, scal_nn, rI, rI0, rU, rIxLH, rIxTH, rLenH, rLenTH, rSetL, rCatN, rTupOfN, rLstOfN, rSlLN, rSlTN, CDiv, CPow, CMul, CDivW, rNeNil, rLenO, rSplitN, rRepN, r_replC, rMulS, r_methK, rRepTN, r_cmK, rCmpO, Bool.false_xor, Bool.true_xor, r_starT, r_starL, r_cm, r_cval, selK_t, selK_f, rAppend, rIsK, reduceCtorEq, upd_same, at0, at1, at2, at3, at4, at5, at6, at7, at8, at9, at10, at11, at12, at13, ix3_0, ix3_1, ix3_2, V.int.injEq, V.bl.injEq, V.str.injEq, V.ref.injEq, Option.some.injEq, HO.lst.injEq, HO.tup.injEq, HO.ins.injEq, List.cons.injEq, and_true, true_and, exists_eq_left, exists_eq_left', exists_and_left, exists_eq', exists_eq, and_assoc, N_law_right]
        refine ⟨w, rfl, fits (by omega), parseK (w := cutS w (some 1) none) (by have := len_cut w (some 1) none; omega) fun G7 s7 => ?_⟩
        rw [hk] at htl
        rw [if_neg (fun h => absurd h.2 (by decide))] at htl
        rw [htl]
        try simp only [cxK, r_lam, r_dnew, r_err, r_base, r_serr, r_var, r_c, r_seq, r_next, r_break, r_cont, r_drop, r_ret, r_retN, r_if, r_ife, r_asg, r_name, r_op, r_un, r_nil, r_cons, r_lst2, r_tup2, r_lc, r_for, r_ilist, r_itup, r_istr, r_irng1, r_irng2, r_ienum, r_ienumS, wipe, r_cb, r_test, r_b, r_not, r_notV, r_andV, r_orV, r_isN, r_notN, r_m1, r_m0, r_fld, sFld, putF, r_par, r_sub, r_gtup, r_gnil, r_gcons, r_sl, r_nopart, r_part, r_bm, r_bm0, r_chain, r_call, r_callK, r_meth, r_prop, r_make, r_and, r_or, andT_t, andT_f, orT_t, orT_f, ifK_t, ifK_f, ifE_t, ifE_f, andK_t, andK_f, orK_t, orK_f, L2.start, List.map_cons, List.map_nil, List.length_cons, List.length_nil, List.replicate_succ, List.replicate_zero, List.cons_append, List.nil_append, List.getElem?_cons_succ, List.getElem?_cons_zero, List.set_cons_succ, List.set_cons_zero, Nat.reduceAdd, Nat.reduceSub, Nat.zero_add, decide_true, decide_false, Bool.not_true, Bool.not_false, if_true, if_false, rEq, rNe, scal_ii, scal_ss, scal_bb, scal_is, scal_si, scal_ns, scal_ni, scal_in, scal_sn, scal_nn, rI, rI0, rU, rIxLH, rIxTH, rLenH, rLenTH, rSetL, rCatN, rTupOfN, rLstOfN, rSlLN, rSlTN, CDiv, CPow, CMul, CDivW, rNeNil, rLenO, rSplitN, rRepN, r_replC, rMulS, r_methK, rRepTN, r_cmK, rCmpO, Bool.false_xor, Bool.true_xor, r_starT, r_starL, r_cm, r_cval, selK_t, selK_f, rAppend, rIsK, reduceCtorEq, upd_same, at0, at1, at2, at3, at4, at5, at6, at7, at8, at9, at10, at11, at12, at13, ix3_0, ix3_1, ix3_2, V.int.injEq, V.bl.injEq, V.str.injEq, V.ref.injEq, Option.some.injEq, HO.lst.injEq, HO.tup.injEq, HO.ins.injEq, List.cons.injEq, and_true, true_and, exists_eq_left, exists_eq_left', exists_and_left, exists_eq', exists_eq, and_assoc, N_law_right]
        refine ⟨w, rfl, fits (by omega), ?_⟩
        by_cases c12 : cutS w (some 1) (some 2) = "/"
        · have nd : (PySem.Str.ofString "path" = PySem.Str.ofString "") = False := eq_false (by decide)
          try simp only [cxK, r_lam, r_dnew, r_err, r_base, r_serr, r_var, r_c, r_seq, r_next, r_break, r_cont, r_drop, r_ret, r_retN, r_if, r_ife, r_asg, r_name, r_op, r_un, r_nil, r_cons, r_lst2, r_tup2, r_lc, r_for, r_ilist, r_itup, r_istr, r_irng1, r_irng2, r_ienum, r_ienumS, wipe, r_cb, r_test, r_b, r_not, r_notV, r_andV, r_orV, r_isN, r_notN, r_m1, r_m0, r_fld, sFld, putF, r_par, r_sub, r_gtup, r_gnil, r_gcons, r_sl, r_nopart, r_part, r_bm, r_bm0, r_chain, r_call, r_callK, r_meth, r_prop, r_make, r_and, r_or, andT_t, andT_f, orT_t, orT_f, ifK_t, ifK_f, ifE_t, ifE_f, andK_t, andK_f, orK_t, orK_f, L2.start, List.map_cons, List.map_nil, List.length_cons, List.length_nil, List.replicate_succ, List.replicate_zero, List.cons_append, List.nil_append, List.getElem?_cons_succ, List.getElem?_cons_zero, List.set_cons_succ, List.set_cons_zero, Nat.reduceAdd, Nat.reduceSub, Nat.zero_add, decide_true, decide_false, Bool.not_true, Bool.not_false, if_true, if_false, rEq, rNe, scal_ii, scal_ss, scal_bb, scal_is, scal_si, scal_ns, scal_ni, scal_in, scal_sn, scal_nn, rI, rI0, rU, rIxLH, rIxTH, rLenH, rLenTH, rSetL, rCatN, rTupOfN, rLstOfN, rSlLN, rSlTN, CDiv, CPow, CMul, CDivW, rNeNil, rLenO, rSplitN, rRepN, r_replC, rMulS, r_methK, rRepTN, r_cmK, rCmpO, Bool.false_xor, Bool.true_xor, r_starT, r_starL, r_cm, r_cval, selK_t, selK_f, rAppend, rIsK, reduceCtorEq, upd_same, at0, at1, at2, at3, at4, at5, at6, at7, at8, at9, at10, at11, at12, at13, ix3_0, ix3_1, ix3_2, V.int.injEq, V.bl.injEq, V.str.injEq, V.ref.injEq, Option.some.injEq, HO.lst.injEq, HO.tup.injEq, HO.ins.injEq, List.cons.injEq, and_true, true_and, exists_eq_left, exists_eq_left', exists_and_left, exists_eq', exists_eq, and_assoc, N_law_right, c12, nd]
          exact fin G7 (ext_trans e4 (ext_trans (ext_same s5) (ext_trans e6 (ext_same s7)))) (tabs_same t6 s7)
        · try simp only [cxK, r_lam, r_dnew, r_err, r_base, r_serr, r_var, r_c, r_seq, r_next, r_break, r_cont, r_drop, r_ret, r_retN, r_if, r_ife, r_asg, r_name, r_op, r_un, r_nil, r_cons, r_lst2, r_tup2, r_lc, r_for, r_ilist, r_itup, r_istr, r_irng1, r_irng2, r_ienum, r_ienumS, wipe, r_cb, r_test, r_b, r_not, r_notV, r_andV, r_orV, r_isN, r_notN, r_m1, r_m0, r_fld, sFld, putF, r_par, r_sub, r_gtup, r_gnil, r_gcons, r_sl, r_nopart, r_part, r_bm, r_bm0, r_chain, r_call, r_callK, r_meth, r_prop, r_make, r_and, r_or, andT_t, andT_f, orT_t, orT_f, ifK_t, ifK_f, ifE_t, ifE_f, andK_t, andK_f, orK_t, orK_f, L2.start, List.map_cons, List.map_nil, List.length_cons, List.length_nil, List.replicate_succ, List.replicate_zero, List.cons_append, List.nil_append, List.getElem?_cons_succ, List.getElem?_cons_zero, List.set_cons_succ, List.set_cons_zero, Nat.reduceAdd, Nat.reduceSub, Nat.zero_add, decide_true, decide_false, Bool.not_true, Bool.not_false, if_true, if_false, rEq, rNe, scal_ii, scal_ss, scal_bb, scal_is, scal_si, scal_ns, scal_ni, scal_in, scal_sn, scal_nn, rI, rI0, rU, rIxLH, rIxTH, rLenH, rLenTH, rSetL, rCatN, rTupOfN, rLstOfN, rSlLN, rSlTN, CDiv, CPow, CMul, CDivW, rNeNil, rLenO, rSplitN, rRepN, r_replC, rMulS, r_methK, rRepTN, r_cmK, rCmpO, Bool.false_xor, Bool.true_xor, r_starT, r_starL, r_cm, r_cval, selK_t, selK_f, rAppend, rIsK, reduceCtorEq, upd_same, at0, at1, at2, at3, at4, at5, at6, at7, at8, at9, at10, at11, at12, at13, ix3_0, ix3_1, ix3_2, V.int.injEq, V.bl.injEq, V.str.injEq, V.ref.injEq, Option.some.injEq, HO.lst.injEq, HO.tup.injEq, HO.ins.injEq, List.cons.injEq, and_true, true_and, exists_eq_left, exists_eq_left', exists_and_left, exists_eq', exists_eq, and_assoc, N_law_right, c12]
          exact fin G7 (ext_trans e4 (ext_trans (ext_same s5) (ext_trans e6 (ext_same s7)))) (tabs_same t6 s7)
def spLaw (K : PySem.W.Frag) : Sp := fun vs H Q _ => ∃ (a : Addr) (ns : List Int), vs = [.ref a] ∧ ns.length ≤ 63 ∧ SqL K H a (ns.map V.int) ∧ LamX.Tabs (TL lm K) H ∧ ∀ H', Q (.bl true) H'
def LawPv (K : PySem.W.Frag) (H : Hp) (L : Addr) (_ : Nat) (σ : L2.St) (H' : Hp) : Prop := ∃ v1 v2 v3 : Option V, σ = [some (.ref L), v1, v2, v3, none, none] ∧ LamX.ExtN H H' ∧ LamX.Tabs (TL lm K) H'
def LawPw (K : PySem.W.Frag) (H : Hp) (L : Addr) (k : Int) (s : Addr) (i : Nat) (σ : L2.St) (H' : Hp) : Prop := ∃ (v3 : Option V) (j : Int), σ = [some (.ref L), some (.int k), some (.ref s), v3, none, none] ∧ LamX.ExtN H H' ∧ LamX.Tabs (TL lm K) H' ∧ Src H' s j ∧ j ≤ 1000 + 100 * i
def LawPo (K : PySem.W.Frag) (G : Hp) (L : Addr) (v1 v2 v3 : Option V) (_ : Nat) (σ : L2.St) (H' : Hp) : Prop := ∃ v5 : Option V, σ = [some (.ref L), v1, v2, v3, none, v5] ∧ LamX.ExtN G H' ∧ LamX.Tabs (TL lm K) H'
theorem parseKv {K : PySem.W.Frag} {H : Hp} {v : V} {r : Option (List Str)} {Q : VK} (hv : PStr K H v r) (h : ∀ H2, Same H H2 → Q (.str (okS r)) H2) : spParse K [.ref (ga K "Path"), v] H (okK Q) (errK K Q) := by
  refine ⟨v, r, rfl, hv, fun ns p H1 er s1 _ _ _ => ?_, fun d fs H1 er s1 hd => errK.path hd fun H2 s2 => ?_⟩
  · have z := h H1 s1
    rw [er] at z
    exact z
  · have z := h H2 (same_trans s1 s2)
    rw [er] at z
    exact z
theorem Odd.extN {H H' : Hp} {v : V} (h : Odd H v) (s : LamX.ExtN H H') : Odd H' v := by
  rcases h with h | h | h | ⟨a, xs, e, h | h | ⟨kvs, h⟩⟩
  · exact .inl h
  · exact .inr (.inl h)
  · exact .inr (.inr (.inl h))
  · exact .inr (.inr (.inr ⟨a, xs, e, .inl (s _ _ h nofun)⟩))
  · exact .inr (.inr (.inr ⟨a, xs, e, .inr (.inl (s _ _ h nofun))⟩))
  · exact .inr (.inr (.inr ⟨a, xs, e, .inr (.inr ⟨kvs, s _ _ h nofun⟩)⟩))
theorem PStr.extN {K : PySem.W.Frag} {H H' : Hp} {v : V} {r : Option (List Str)} (h : PStr K H v r) (s : LamX.ExtN H H') : PStr K H' v r := by
  rcases h with h | ⟨h | ⟨p, dx, fs, e, h⟩, e2⟩
  · exact .inl h
  · exact .inr ⟨.inl (h.extN s), e2⟩
  · exact .inr ⟨.inr ⟨p, dx, fs, e, s _ _ h nofun⟩, e2⟩
theorem a_nm : ∀ x ∈ [PySem.Str.ofString "a"], isNm x = true := by
  rw [show PySem.Str.ofString "a" = ⟨#[97]⟩ by decide +kernel]
  decide +kernel
theorem mul_le {x : Str} {k : Int} (h : decide ((Txt.mul x k).length ≤ 16000000) = true) : (Txt.mul x k).length ≤ 16000000 := of_decide_eq_true h
theorem lit_no : namesIn (PySem.Str.ofString "") = none ∧ namesIn (PySem.Str.ofString "a") = none ∧ namesIn (PySem.Str.ofString "a/b") = none ∧ namesIn (PySem.Str.ofString " /a") = none ∧ namesIn (PySem.Str.ofString ".") = none ∧ namesIn (PySem.Str.ofString "..") = none := by
  have e1 : PySem.Str.ofString "a" = ⟨#[97]⟩ := by decide +kernel
  have e2 : PySem.Str.ofString "a/b" = ⟨#[97, 47, 98]⟩ := by decide +kernel
  have e3 : PySem.Str.ofString " /a" = ⟨#[32, 47, 97]⟩ := by decide +kernel
  rw [e0_eq, e1, e2, e3, pt1_eq, pt2_eq]
  decide +kernel
theorem lit_yes : namesIn (Txt.mul (PySem.Str.ofString "/") 200) = some [] ∧ namesIn (Txt.mul (PySem.Str.ofString "/a") 13 ++ PySem.Str.ofString "/..") = some (List.replicate 12 (PySem.Str.ofString "a")) ∧ namesIn (PySem.Str.ofString "/../..") = some [] ∧ namesIn (PySem.Str.ofString "/a//b/../c/") = some [PySem.Str.ofString "a", PySem.Str.ofString "c"] := by
  have e1 : PySem.Str.ofString "a" = ⟨#[97]⟩ := by decide +kernel
  have e2 : PySem.Str.ofString "c" = ⟨#[99]⟩ := by decide +kernel
  have e3 : PySem.Str.ofString "/a" = ⟨#[47, 97]⟩ := by decide +kernel
  have e4 : PySem.Str.ofString "/.." = ⟨#[47, 46, 46]⟩ := by decide +kernel
  have e5 : PySem.Str.ofString "/../.." = ⟨#[47, 46, 46, 47, 46, 46]⟩ := by decide +kernel
  have e6 : PySem.Str.ofString "/a//b/../c/" = ⟨#[47, 97, 47, 47, 98, 47, 46, 46, 47, 99, 47]⟩ := by decide +kernel
  rw [e1, e2, e3, e4, e5, e6, slash_eq]
  decide +kernel
theorem lit_none : namesIn (Txt.mul (PySem.Str.ofString "/") 201) = none ∧ namesIn (Txt.mul (PySem.Str.ofString "/a") 13) = none ∧ namesIn (Txt.mul (PySem.Str.ofString "/a") 13 ++ PySem.Str.ofString "/../b") = none := by
  have e3 : PySem.Str.ofString "/a" = ⟨#[47, 97]⟩ := by decide +kernel
  have e4 : PySem.Str.ofString "/../b" = ⟨#[47, 46, 46, 47, 98]⟩ := by decide +kernel
  rw [e3, e4, slash_eq]
  decide +kernel
theorem lit_twelve : ∃ ns, namesIn (Txt.mul (PySem.Str.ofString "/abcdefghijkl") 12) = some ns ∧ ns.length = 12 := by
  have e3 : PySem.Str.ofString "/abcdefghijkl" = ⟨#[47, 97, 98, 99, 100, 101, 102, 103, 104, 105, 106, 107, 108]⟩ := by decide +kernel
  rw [e3]
  refine ⟨List.replicate 12 ⟨#[97, 98, 99, 100, 101, 102, 103, 104, 105, 106, 107, 108]⟩, ?_, by simp⟩
  decide +kernel
def dat : PyData := .list [.tuple (([] : List Str).map PyData.str), .tuple ((List.replicate 12 (PySem.Str.ofString "a")).map PyData.str), .tuple (([] : List Str).map PyData.str), .tuple ([PySem.Str.ofString "a", PySem.Str.ofString "c"].map PyData.str)]
theorem dat_ok : SeqAt.shaped dat = true ∧ PyData.eqv dat dat = true := by decide +kernel
theorem path3 : ∀ x ∈ [PySem.Str.ofString "path", PySem.Str.ofString "path", PySem.Str.ofString "path"], PyData.strOk x = true := by decide +kernel
theorem ok_law (T : Tx fa fn K mg) (B : Tb lm K mg base) (dn : (lm.map fun d => tabX K d).Nodup) : Fn true P w K mg base 11 (aG "law" K) [] (spLaw K) := by
  obtain ⟨fd, F⟩ := F_law T
  refine fn_code F sc_law (fun vs H Q E h => ?_) (b_law F) (fun A outer s H vs Q E hr h => ⟨_, (pss_cons (ps_for passO rfl (pi_range1 (by rfl) (T.free (T.c.fact 44 (f := fFree "range") rfl)) (pa_cons (pe_callB (call_max2 rfl) (by rfl) (T.free (T.c.fact 46 (f := fFree "max") rfl)) (by decide +kernel) (pa_cons pe_int (pa_cons (pe_callB (call_min2 rfl) (by rfl) (T.free (T.c.fact 47 (f := fFree "min") rfl)) (by decide +kernel) (pa_cons pe_int (pa_cons (pe_callB call_len_seq (by rfl) (T.free (T.c.fact 0 (f := fFree "len") rfl)) (by decide +kernel) (pa_cons (pv 0) pa_nil)) pa_nil))) pa_nil))) pa_nil)) (pg_name (i := 1) sc_law.nd rfl (Or.inl rfl))
 (pss_cons (ps_set (i := 2) sc_law.nd rfl (Or.inl rfl) (pe_fn (ok_law_source T) (hr.mono (by decide)) rfl (g_law_source T) (k_law_source T) passD (pa_cons (pv 0) (pa_cons (pv 1) pa_nil))))
 (pss_one (ps_for passO rfl (pi_range1 (by rfl) (T.free (T.c.fact 44 (f := fFree "range") rfl)) (pa_cons pe_int pa_nil)) (pg_name (i := 3) sc_law.nd rfl (Or.inl rfl))
 (pss_one (ps_if (pt_not (pt_val (pe_fn (ok_law_right T B dn) (hr.mono (by decide)) rfl (g_law_right T) (k_law_right T) passD (pa_cons (pv 2) pa_nil))))
 (pss_one (ps_ret pe_bl))
 pss_nil))))))
 (pss_cons (ps_for passO rfl (pi_tup (pe_tup (pa_cons pe_non (pa_cons pe_int (pa_cons pe_bl (pa_cons (pe_tup (pa_cons pe_str pa_nil)) (pa_cons (pe_lst (pa_cons pe_str pa_nil)) (pa_cons pe_dnewK (pa_cons pe_str (pa_cons pe_str (pa_cons pe_str (pa_cons pe_str (pa_cons pe_str (pa_cons pe_str (pa_cons (pe_mk (mkr_ok (T.c.fact 35 (f := fMkr "Path") rfl)) (ok_Path_init T) (hr.mono (by decide)) rfl (T.glo (T.c.fact 36 (f := fGlo "Path") rfl)) passD (pa_cons pe_str pa_nil)) pa_nil))))))))))))))) (pg_name (i := 5) sc_law.nd rfl (Or.inr rfl))
 (pss_one (ps_if (pt_cmpR op_ne (pe_inv (k := 5) T B dn (d := d_law) (by simp [lm]) rfl rfl rfl (hr.r.mono (by decide)) (LamX.lamS_by (sc := defScope s_law) (by decide +kernel)) rfl (fun _ _ _ _ _ => rfl) (fun A outer s H E f c hr0 => (have hr := (Rm.mk hr0 (fun e => nomatch e) : Rm false _ _); (pe_cm (pe_glob (v := .ref (ga _ "Path")) rfl (T.glo (T.c.fact 36 (f := fGlo "Path") rfl)) rfl) (read_ok (T.c.fact 38 (f := fRead "Path") rfl)) (cmet_ok (T.c.fact 39 (f := fCMet "Path" "parse") rfl)) (ok_Path_parse T) (hr.mono (by decide)) passLam (pa_cons (pv 5) pa_nil))))) pe_str (nomark _))
 (pss_one (ps_ret pe_bl))
 pss_nil)))
 (pss_cons (ps_set (i := 4) sc_law.nd rfl (Or.inl rfl) (pe_lst (pa_cons (pe_fld (pe_cm (pe_glob (v := .ref (ga _ "Path")) rfl (T.glo (T.c.fact 36 (f := fGlo "Path") rfl)) rfl) (read_ok (T.c.fact 38 (f := fRead "Path") rfl)) (cmet_ok (T.c.fact 39 (f := fCMet "Path" "parse") rfl)) (ok_Path_parse T) (hr.mono (by decide)) passD (pa_cons (pe_op op_mul_str pe_str pe_int) pa_nil)) rfl) (pa_cons (pe_fld (pe_cm (pe_glob (v := .ref (ga _ "Path")) rfl (T.glo (T.c.fact 36 (f := fGlo "Path") rfl)) rfl) (read_ok (T.c.fact 38 (f := fRead "Path") rfl)) (cmet_ok (T.c.fact 39 (f := fCMet "Path" "parse") rfl)) (ok_Path_parse T) (hr.mono (by decide)) passD (pa_cons (pe_op op_add_str (pe_op op_mul_str pe_str pe_int) pe_str) pa_nil)) rfl) (pa_cons (pe_fld (pe_cm (pe_glob (v := .ref (ga _ "Path")) rfl (T.glo (T.c.fact 36 (f := fGlo "Path") rfl)) rfl) (read_ok (T.c.fact 38 (f := fRead "Path") rfl)) (cmet_ok (T.c.fact 39 (f := fCMet "Path" "parse") rfl)) (ok_Path_parse T) (hr.mono (by decide)) passD (pa_cons pe_str pa_nil)) rfl) pa_nil)))))
 (pss_cons (ps_expr (pe_bm PySem.F.plainAttrs_list PySem.F.slot_list_append PySem.F.type_list_append mt_append (pv 4) (pa_cons (pe_fld (pe_cm (pe_glob (v := .ref (ga _ "Path")) rfl (T.glo (T.c.fact 36 (f := fGlo "Path") rfl)) rfl) (read_ok (T.c.fact 38 (f := fRead "Path") rfl)) (cmet_ok (T.c.fact 39 (f := fCMet "Path" "parse") rfl)) (ok_Path_parse T) (hr.mono (by decide)) passD (pa_cons pe_str pa_nil)) rfl) pa_nil)))
 (pss_cons (ps_if (pt_cmpR (op_neD hr.r.units) (pv 4) (pe_lst (pa_cons (pe_tup pa_nil) (pa_cons (pe_op op_repTn (pe_tup (pa_cons pe_str pa_nil)) pe_int) (pa_cons (pe_tup pa_nil) (pa_cons (pe_tup (pa_cons pe_str (pa_cons pe_str pa_nil))) pa_nil))))) (nomark _))
 (pss_one (ps_ret pe_bl))
 pss_nil)
 (pss_cons (ps_set (i := 4) sc_law.nd rfl (Or.inl rfl) (pe_lst (pa_cons (pe_inv (k := 5) T B dn (d := d_law) (by simp [lm]) rfl rfl rfl (hr.r.mono (by decide)) (LamX.lamS_by (sc := defScope s_law) (by decide +kernel)) rfl (fun _ _ _ _ _ => rfl) (fun A outer s H E f c hr0 => (have hr := (Rm.mk hr0 (fun e => nomatch e) : Rm false _ _); (pe_cm (pe_glob (v := .ref (ga _ "Path")) rfl (T.glo (T.c.fact 36 (f := fGlo "Path") rfl)) rfl) (read_ok (T.c.fact 38 (f := fRead "Path") rfl)) (cmet_ok (T.c.fact 39 (f := fCMet "Path" "parse") rfl)) (ok_Path_parse T) (hr.mono (by decide)) passLam (pa_cons (pe_op op_mul_str pe_str pe_int) pa_nil))))) (pa_cons (pe_invD (k := 5) T B dn (d := d_law) (by simp [lm]) rfl rfl rfl (hr.r.mono (by decide)) (FLd.lamD_by (N := N_law) (sc := defScope s_law) (by decide +kernel)) rfl (y := "_law_x") (fun _ _ _ _ _ _ _ => ⟨_, rfl, rfl⟩) rfl (fun A outer s H E f c hr0 => (have hr := (Rm.mk hr0 (fun e => nomatch e) : Rm false _ _); (pe_cm (pe_glob (v := .ref (ga _ "Path")) rfl (T.glo (T.c.fact 36 (f := fGlo "Path") rfl)) rfl) (read_ok (T.c.fact 38 (f := fRead "Path") rfl)) (cmet_ok (T.c.fact 39 (f := fCMet "Path" "parse") rfl)) (ok_Path_parse T) (hr.mono (by decide)) passLam (pa_cons (pe_op op_mul_str pe_str pe_int) pa_nil))))) pa_nil))))
 (pss_cons (ps_expr (pe_bm PySem.F.plainAttrs_list PySem.F.slot_list_append PySem.F.type_list_append mt_append (pv 4) (pa_cons (pe_inv (k := 5) T B dn (d := d_law) (by simp [lm]) rfl rfl rfl (hr.r.mono (by decide)) (LamX.lamS_by (sc := defScope s_law) (by decide +kernel)) rfl (fun _ _ _ _ _ => rfl) (fun A outer s H E f c hr0 => (have hr := (Rm.mk hr0 (fun e => nomatch e) : Rm false _ _); (pe_cm (pe_glob (v := .ref (ga _ "Path")) rfl (T.glo (T.c.fact 36 (f := fGlo "Path") rfl)) rfl) (read_ok (T.c.fact 38 (f := fRead "Path") rfl)) (cmet_ok (T.c.fact 39 (f := fCMet "Path" "parse") rfl)) (ok_Path_parse T) (hr.mono (by decide)) passLam (pa_cons (pe_op op_add_str (pe_op op_mul_str pe_str pe_int) pe_str) pa_nil))))) pa_nil)))
 (pss_one (ps_ret (pe_and (pe_cmpR (op_eqD hr.r.units) (pv 4) (pe_op op_rep_n (pe_lst (pa_cons pe_str pa_nil)) pe_int) (nomark _)) (pe_one (pe_cmpR op_eq (pe_callB (call_lenO (cls_ok (T.c.fact 14 (f := fCls "Path") rfl)) (meth_ok (T.c.fact 45 (f := fMeth "Path" "__len__") rfl)) (ok_Path_len T) (hr.mono (by decide)) passD) (by rfl) (T.free (T.c.fact 0 (f := fFree "len") rfl)) (by decide +kernel) (pa_cons (pe_cm (pe_glob (v := .ref (ga _ "Path")) rfl (T.glo (T.c.fact 36 (f := fGlo "Path") rfl)) rfl) (read_ok (T.c.fact 38 (f := fRead "Path") rfl)) (cmet_ok (T.c.fact 39 (f := fCMet "Path" "parse") rfl)) (ok_Path_parse T) (hr.mono (by decide)) passD (pa_cons (pe_op op_mul_str pe_str pe_int) pa_nil)) pa_nil)) pe_int (nomark _))))))))))))), ?_⟩)
  · first | (obtain ⟨_, e, _⟩ := h; subst e; rfl) | (obtain ⟨_, _, e, _⟩ := h; subst e; rfl) | (obtain ⟨_, _, _, e, _⟩ := h; subst e; rfl) | (obtain ⟨_, _, _, _, e, _⟩ := h; subst e; rfl) | (obtain ⟨_, _, _, _, _, e, _⟩ := h; subst e; rfl) | (obtain ⟨_, _, _, _, _, _, e, _⟩ := h; subst e; rfl) | (obtain ⟨_, _, _, _, _, _, _, e, _⟩ := h; subst e; rfl) | (obtain ⟨_, _, _, _, _, _, _, _, e, _⟩ := h; subst e; rfl) | (obtain ⟨_, _, _, _, _, _, _, _, _, e, _⟩ := h; subst e; rfl) | (obtain ⟨_, _, _, _, _, _, _, _, _, _, e, _⟩ := h; subst e; rfl) | (obtain ⟨_, _, _, _, _, _, _, _, _, _, _, e, _⟩ := h; subst e; rfl)
  obtain ⟨L, ns, rfl, hn, hL, ht, q⟩ := h
  try simp only [cxK, r_lam, r_dnew, r_err, r_base, r_serr, r_var, r_c, r_seq, r_next, r_break, r_cont, r_drop, r_ret, r_retN, r_if, r_ife, r_asg, r_name, r_op, r_un, r_nil, r_cons, r_lst2, r_tup2, r_lc, r_for, r_ilist, r_itup, r_istr, r_irng1, r_irng2, r_ienum, r_ienumS, wipe, r_cb, r_test, r_b, r_not, r_notV, r_andV, r_orV, r_isN, r_notN, r_m1, r_m0, r_fld, sFld, putF, r_par, r_sub, r_gtup, r_gnil, r_gcons, r_sl, r_nopart, r_part, r_bm, r_bm0, r_chain, r_call, r_callK, r_meth, r_prop, r_make, r_and, r_or, andT_t, andT_f, orT_t, orT_f, ifK_t, ifK_f, ifE_t, ifE_f, andK_t, andK_f, orK_t, orK_f, L2.start, List.map_cons, List.map_nil, List.length_cons, List.length_nil, List.replicate_succ, List.replicate_zero, List.cons_append, List.nil_append, List.getElem?_cons_succ, List.getElem?_cons_zero, List.set_cons_succ, List.set_cons_zero, Nat.reduceAdd, Nat.reduceSub, Nat.zero_add, decide_true, decide_false, Bool.not_true, Bool.not_false, if_true, if_false, rEq, rNe, scal_ii, scal_ss, scal_bb, scal_is, scal_si, scal_ns, scal_ni, scal_in, scal_sn, scal_nn, rI, rI0, rU, rIxLH, rIxTH, rLenH, rLenTH, rSetL, rCatN, rTupOfN, rLstOfN, rSlLN, rSlTN, CDiv, CPow, CMul, CDivW, rNeNil, rLenO, rSplitN, rRepN, r_replC, rMulS, r_methK, rRepTN, r_cmK, rCmpO, Bool.false_xor, Bool.true_xor, r_starT, r_starL, r_cm, r_cval, selK_t, selK_f, rAppend, rIsK, reduceCtorEq, upd_same, at0, at1, at2, at3, at4, at5, at6, at7, at8, at9, at10, at11, at12, at13, ix3_0, ix3_1, ix3_2, V.int.injEq, V.bl.injEq, V.str.injEq, V.ref.injEq, Option.some.injEq, HO.lst.injEq, HO.tup.injEq, HO.ins.injEq, List.cons.injEq, and_true, true_and, exists_eq_left, exists_eq_left', exists_and_left, exists_eq', exists_eq, and_assoc, N_law]
  have hm : (ns.map V.int).length ≤ 63 := by simpa using hn
  refine ⟨_, Or.inl hL, by split <;> split <;> omega, by split <;> split <;> omega, ?_⟩
  refine forK_rng (LawPv K H L) ⟨none, none, none, rfl, LamX.ExtN.refl H, ht⟩ ?_ ?_
  · rintro i σ H1 hi ⟨v1, v2, v3, rfl, s1, t1⟩
    have hi2 : i < 3 := by
      have : (if (if ((ns.map V.int).length : Int) < 3 then ((ns.map V.int).length : Int) else 3) > 1 then (if ((ns.map V.int).length : Int) < 3 then ((ns.map V.int).length : Int) else 3) else 1) ≤ 3 := by split <;> split <;> omega
      omega
    try simp only [cxK, r_lam, r_dnew, r_err, r_base, r_serr, r_var, r_c, r_seq, r_next, r_break, r_cont, r_drop, r_ret, r_retN, r_if, r_ife, r_asg, r_name, r_op, r_un, r_nil, r_cons, r_lst2, r_tup2, r_lc, r_for, r_ilist, r_itup, r_istr, r_irng1, r_irng2, r_ienum, r_ienumS, wipe, r_cb, r_test, r_b, r_not, r_notV, r_andV, r_orV, r_isN, r_notN, r_m1, r_m0, r_fld, sFld, putF, r_par, r_sub, r_gtup, r_gnil, r_gcons, r_sl, r_nopart, r_part, r_bm, r_bm0, r_chain, r_call, r_callK, r_meth, r_prop, r_make, r_and, r_or, andT_t, andT_f, orT_t, orT_f, ifK_t, ifK_f, ifE_t, ifE_f, andK_t, andK_f, orK_t, orK_f, L2.start, List.map_cons, List.map_nil, List.length_cons, List.length_nil, List.replicate_succ, List.replicate_zero, List.cons_append, List.nil_append, List.getElem?_cons_succ, List.getElem?_cons_zero, List.set_cons_succ, List.set_cons_zero, Nat.reduceAdd, Nat.reduceSub, Nat.zero_add, decide_true, decide_false, Bool.not_true, Bool.not_false, if_true, if_false, rEq, rNe, scal_ii, scal_ss, scal_bb, scal_is, scal_si, scal_ns, scal_ni, scal_in, scal_sn, scal_nn, rI, rI0, rU, rIxLH, rIxTH, rLenH, rLenTH, rSetL, rCatN, rTupOfN, rLstOfN, rSlLN, rSlTN, CDiv, CPow, CMul, CDivW, rNeNil, rLenO, rSplitN, rRepN, r_replC, rMulS, r_methK, rRepTN, r_cmK, rCmpO, Bool.false_xor, Bool.true_xor, r_starT, r_starL, r_cm, r_cval, selK_t, selK_f, rAppend, rIsK, reduceCtorEq, upd_same, at0, at1, at2, at3, at4, at5, at6, at7, at8, at9, at10, at11, at12, at13, ix3_0, ix3_1, ix3_2, V.int.injEq, V.bl.injEq, V.str.injEq, V.ref.injEq, Option.some.injEq, HO.lst.injEq, HO.tup.injEq, HO.ins.injEq, List.cons.injEq, and_true, true_and, exists_eq_left, exists_eq_left', exists_and_left, exists_eq', exists_eq, and_assoc, N_law]
    refine ⟨L, ns, _, rfl, sqL_ext hL s1, by omega, by omega, fun s H2 ns2 s2 hs2 => ?_⟩
    try simp only [cxK, r_lam, r_dnew, r_err, r_base, r_serr, r_var, r_c, r_seq, r_next, r_break, r_cont, r_drop, r_ret, r_retN, r_if, r_ife, r_asg, r_name, r_op, r_un, r_nil, r_cons, r_lst2, r_tup2, r_lc, r_for, r_ilist, r_itup, r_istr, r_irng1, r_irng2, r_ienum, r_ienumS, wipe, r_cb, r_test, r_b, r_not, r_notV, r_andV, r_orV, r_isN, r_notN, r_m1, r_m0, r_fld, sFld, putF, r_par, r_sub, r_gtup, r_gnil, r_gcons, r_sl, r_nopart, r_part, r_bm, r_bm0, r_chain, r_call, r_callK, r_meth, r_prop, r_make, r_and, r_or, andT_t, andT_f, orT_t, orT_f, ifK_t, ifK_f, ifE_t, ifE_f, andK_t, andK_f, orK_t, orK_f, L2.start, List.map_cons, List.map_nil, List.length_cons, List.length_nil, List.replicate_succ, List.replicate_zero, List.cons_append, List.nil_append, List.getElem?_cons_succ, List.getElem?_cons_zero, List.set_cons_succ, List.set_cons_zero, Nat.reduceAdd, Nat.reduceSub, Nat.zero_add, decide_true, decide_false, Bool.not_true, Bool.not_false, if_true, if_false, rEq, rNe, scal_ii, scal_ss, scal_bb, scal_is, scal_si, scal_ns, scal_ni, scal_in, scal_sn, scal_nn, rI, rI0, rU, rIxLH, rIxTH, rLenH, rLenTH, rSetL, rCatN, rTupOfN, rLstOfN, rSlLN, rSlTN, CDiv, CPow, CMul, CDivW, rNeNil, rLenO, rSplitN, rRepN, r_replC, rMulS, r_methK, rRepTN, r_cmK, rCmpO, Bool.false_xor, Bool.true_xor, r_starT, r_starL, r_cm, r_cval, selK_t, selK_f, rAppend, rIsK, reduceCtorEq, upd_same, at0, at1, at2, at3, at4, at5, at6, at7, at8, at9, at10, at11, at12, at13, ix3_0, ix3_1, ix3_2, V.int.injEq, V.bl.injEq, V.str.injEq, V.ref.injEq, Option.some.injEq, HO.lst.injEq, HO.tup.injEq, HO.ins.injEq, List.cons.injEq, and_true, true_and, exists_eq_left, exists_eq_left', exists_and_left, exists_eq', exists_eq, and_assoc, N_law]
    refine ⟨by decide, by decide, ?_⟩
    refine forK_rng (LawPw K H1 L (0 + i) s) ⟨v3, _, rfl, ext_same s2, tabs_same t1 s2, hs2, by omega⟩ ?_ ?_
    · rintro i2 σ H3 hi3 ⟨v3, j, rfl, s3, t3, hs3, hj⟩
      have hi4 : i2 < 6 := hi3
      try simp only [cxK, r_lam, r_dnew, r_err, r_base, r_serr, r_var, r_c, r_seq, r_next, r_break, r_cont, r_drop, r_ret, r_retN, r_if, r_ife, r_asg, r_name, r_op, r_un, r_nil, r_cons, r_lst2, r_tup2, r_lc, r_for, r_ilist, r_itup, r_istr, r_irng1, r_irng2, r_ienum, r_ienumS, wipe, r_cb, r_test, r_b, r_not, r_notV, r_andV, r_orV, r_isN, r_notN, r_m1, r_m0, r_fld, sFld, putF, r_par, r_sub, r_gtup, r_gnil, r_gcons, r_sl, r_nopart, r_part, r_bm, r_bm0, r_chain, r_call, r_callK, r_meth, r_prop, r_make, r_and, r_or, andT_t, andT_f, orT_t, orT_f, ifK_t, ifK_f, ifE_t, ifE_f, andK_t, andK_f, orK_t, orK_f, L2.start, List.map_cons, List.map_nil, List.length_cons, List.length_nil, List.replicate_succ, List.replicate_zero, List.cons_append, List.nil_append, List.getElem?_cons_succ, List.getElem?_cons_zero, List.set_cons_succ, List.set_cons_zero, Nat.reduceAdd, Nat.reduceSub, Nat.zero_add, decide_true, decide_false, Bool.not_true, Bool.not_false, if_true, if_false, rEq, rNe, scal_ii, scal_ss, scal_bb, scal_is, scal_si, scal_ns, scal_ni, scal_in, scal_sn, scal_nn, rI, rI0, rU, rIxLH, rIxTH, rLenH, rLenTH, rSetL, rCatN, rTupOfN, rLstOfN, rSlLN, rSlTN, CDiv, CPow, CMul, CDivW, rNeNil, rLenO, rSplitN, rRepN, r_replC, rMulS, r_methK, rRepTN, r_cmK, rCmpO, Bool.false_xor, Bool.true_xor, r_starT, r_starL, r_cm, r_cval, selK_t, selK_f, rAppend, rIsK, reduceCtorEq, upd_same, at0, at1, at2, at3, at4, at5, at6, at7, at8, at9, at10, at11, at12, at13, ix3_0, ix3_1, ix3_2, V.int.injEq, V.bl.injEq, V.str.injEq, V.ref.injEq, Option.some.injEq, HO.lst.injEq, HO.tup.injEq, HO.ins.injEq, List.cons.injEq, and_true, true_and, exists_eq_left, exists_eq_left', exists_and_left, exists_eq', exists_eq, and_assoc, N_law]
      refine ⟨s, j, rfl, hs3, by omega, t3, fun j2 H4 j3 j4 o4 t4 hs4 => ?_⟩
      try simp only [cxK, r_lam, r_dnew, r_err, r_base, r_serr, r_var, r_c, r_seq, r_next, r_break, r_cont, r_drop, r_ret, r_retN, r_if, r_ife, r_asg, r_name, r_op, r_un, r_nil, r_cons, r_lst2, r_tup2, r_lc, r_for, r_ilist, r_itup, r_istr, r_irng1, r_irng2, r_ienum, r_ienumS, wipe, r_cb, r_test, r_b, r_not, r_notV, r_andV, r_orV, r_isN, r_notN, r_m1, r_m0, r_fld, sFld, putF, r_par, r_sub, r_gtup, r_gnil, r_gcons, r_sl, r_nopart, r_part, r_bm, r_bm0, r_chain, r_call, r_callK, r_meth, r_prop, r_make, r_and, r_or, andT_t, andT_f, orT_t, orT_f, ifK_t, ifK_f, ifE_t, ifE_f, andK_t, andK_f, orK_t, orK_f, L2.start, List.map_cons, List.map_nil, List.length_cons, List.length_nil, List.replicate_succ, List.replicate_zero, List.cons_append, List.nil_append, List.getElem?_cons_succ, List.getElem?_cons_zero, List.set_cons_succ, List.set_cons_zero, Nat.reduceAdd, Nat.reduceSub, Nat.zero_add, decide_true, decide_false, Bool.not_true, Bool.not_false, if_true, if_false, rEq, rNe, scal_ii, scal_ss, scal_bb, scal_is, scal_si, scal_ns, scal_ni, scal_in, scal_sn, scal_nn, rI, rI0, rU, rIxLH, rIxTH, rLenH, rLenTH, rSetL, rCatN, rTupOfN, rLstOfN, rSlLN, rSlTN, CDiv, CPow, CMul, CDivW, rNeNil, rLenO, rSplitN, rRepN, r_replC, rMulS, r_methK, rRepTN, r_cmK, rCmpO, Bool.false_xor, Bool.true_xor, r_starT, r_starL, r_cm, r_cval, selK_t, selK_f, rAppend, rIsK, reduceCtorEq, upd_same, at0, at1, at2, at3, at4, at5, at6, at7, at8, at9, at10, at11, at12, at13, ix3_0, ix3_1, ix3_2, V.int.injEq, V.bl.injEq, V.str.injEq, V.ref.injEq, Option.some.injEq, HO.lst.injEq, HO.tup.injEq, HO.ins.injEq, List.cons.injEq, and_true, true_and, exists_eq_left, exists_eq_left', exists_and_left, exists_eq', exists_eq, and_assoc, N_law]
      exact ⟨_, j2, rfl, ext_oth ns2 s3 o4, t4, hs4, by omega⟩
    · rintro σ H3 ⟨v3, j, rfl, s3, t3, hs3, hj⟩
      exact ⟨_, _, _, rfl, ext_trans s1 s3, t3⟩
  · rintro σ H1 ⟨v1, v2, v3, rfl, s1, t1⟩
    try simp only [cxK, r_lam, r_dnew, r_err, r_base, r_serr, r_var, r_c, r_seq, r_next, r_break, r_cont, r_drop, r_ret, r_retN, r_if, r_ife, r_asg, r_name, r_op, r_un, r_nil, r_cons, r_lst2, r_tup2, r_lc, r_for, r_ilist, r_itup, r_istr, r_irng1, r_irng2, r_ienum, r_ienumS, wipe, r_cb, r_test, r_b, r_not, r_notV, r_andV, r_orV, r_isN, r_notN, r_m1, r_m0, r_fld, sFld, putF, r_par, r_sub, r_gtup, r_gnil, r_gcons, r_sl, r_nopart, r_part, r_bm, r_bm0, r_chain, r_call, r_callK, r_meth, r_prop, r_make, r_and, r_or, andT_t, andT_f, orT_t, orT_f, ifK_t, ifK_f, ifE_t, ifE_f, andK_t, andK_f, orK_t, orK_f, L2.start, List.map_cons, List.map_nil, List.length_cons, List.length_nil, List.replicate_succ, List.replicate_zero, List.cons_append, List.nil_append, List.getElem?_cons_succ, List.getElem?_cons_zero, List.set_cons_succ, List.set_cons_zero, Nat.reduceAdd, Nat.reduceSub, Nat.zero_add, decide_true, decide_false, Bool.not_true, Bool.not_false, if_true, if_false, rEq, rNe, scal_ii, scal_ss, scal_bb, scal_is, scal_si, scal_ns, scal_ni, scal_in, scal_sn, scal_nn, rI, rI0, rU, rIxLH, rIxTH, rLenH, rLenTH, rSetL, rCatN, rTupOfN, rLstOfN, rSlLN, rSlTN, CDiv, CPow, CMul, CDivW, rNeNil, rLenO, rSplitN, rRepN, r_replC, rMulS, r_methK, rRepTN, r_cmK, rCmpO, Bool.false_xor, Bool.true_xor, r_starT, r_starL, r_cm, r_cval, selK_t, selK_f, rAppend, rIsK, reduceCtorEq, upd_same, at0, at1, at2, at3, at4, at5, at6, at7, at8, at9, at10, at11, at12, at13, ix3_0, ix3_1, ix3_2, V.int.injEq, V.bl.injEq, V.str.injEq, V.ref.injEq, Option.some.injEq, HO.lst.injEq, HO.tup.injEq, HO.ins.injEq, List.cons.injEq, and_true, true_and, exists_eq_left, exists_eq_left', exists_and_left, exists_eq', exists_eq, and_assoc, N_law]
    refine ⟨fits (by decide), fun q1 G1 g1 => ⟨fits (by decide), fun q2 G2 g2 => fun q3 G3 g3 => ?_⟩⟩
    refine path_made2 (ns := [PySem.Str.ofString "a"]) (by decide) a_nm fun q4 G4 s4 hq4 => ?_
    refine ⟨fits (by decide), fun q5 G5 g5 => ⟨⟨_, SqT.of g5.at_⟩, ?_⟩⟩
    have sm3 := same_trans g1.same (same_trans g2.same g3.same)
    have a1 := g5.old (s4 _ _ (g3.old (g2.old g1.at_)))
    have a2 := g5.old (s4 _ _ (g3.old g2.at_))
    have a3 := g5.old (s4 _ _ g3.at_)
    obtain ⟨dx4, t4', h41, h42⟩ := hq4
    have a4 := g5.old h41
    have s15 := same_trans sm3 (same_trans s4 g5.same)
    have odd : ∀ v ∈ ([.non, .int 5, .bl true, .ref q1, .ref q2, .ref q3, .str (PySem.Str.ofString ""), .str (PySem.Str.ofString "a"), .str (PySem.Str.ofString "a/b"), .str (PySem.Str.ofString " /a"), .str (PySem.Str.ofString "."), .str (PySem.Str.ofString ".."), .ref q4] : List V), PStr K G5 v none := by
      intro v hm
      simp only [List.mem_cons, List.not_mem_nil, or_false] at hm
      obtain ⟨b1, b2, b3, b4, b5, b6⟩ := lit_no
      rcases hm with rfl | rfl | rfl | rfl | rfl | rfl | rfl | rfl | rfl | rfl | rfl | rfl | rfl
      · exact .inr ⟨.inl (.inl rfl), rfl⟩
      · exact .inr ⟨.inl (.inr (.inl ⟨_, rfl⟩)), rfl⟩
      · exact .inr ⟨.inl (.inr (.inr (.inl ⟨_, rfl⟩))), rfl⟩
      · exact .inr ⟨.inl (.inr (.inr (.inr ⟨q1, _, rfl, .inl a1⟩))), rfl⟩
      · exact .inr ⟨.inl (.inr (.inr (.inr ⟨q2, _, rfl, .inr (.inl a2)⟩))), rfl⟩
      · exact .inr ⟨.inl (.inr (.inr (.inr ⟨q3, [], rfl, .inr (.inr ⟨_, a3⟩)⟩))), rfl⟩
      · exact .inl ⟨_, rfl, by decide, b1.symm⟩
      · exact .inl ⟨_, rfl, by decide, b2.symm⟩
      · exact .inl ⟨_, rfl, by decide, b3.symm⟩
      · exact .inl ⟨_, rfl, by decide, b4.symm⟩
      · exact .inl ⟨_, rfl, by decide, b5.symm⟩
      · exact .inl ⟨_, rfl, by decide, b6.symm⟩
      · exact .inr ⟨.inr ⟨q4, _, _, rfl, a4⟩, rfl⟩
    have h5 := g5.at_
    refine forK_it (walk_tup (xs := [.non, .int 5, .bl true, .ref q1, .ref q2, .ref q3, .str (PySem.Str.ofString ""), .str (PySem.Str.ofString "a"), .str (PySem.Str.ofString "a/b"), .str (PySem.Str.ofString " /a"), .str (PySem.Str.ofString "."), .str (PySem.Str.ofString ".."), .ref q4])) (LawPo K G5 L v1 v2 v3) ⟨none, rfl, LamX.ExtN.refl _, tabs_same t1 s15⟩ (fun i σ G hi pv => ?_) ?_ ?_
    · obtain ⟨v5, _, e, _⟩ := pv
      exact SqT.of (e _ _ h5 nofun)
    · rintro i σx σ G G' hi ⟨v5, rfl, e5, t5⟩ ⟨rfl, hx⟩
      have hod := odd _ (List.mem_of_getElem? hx)
      try simp only [cxK, r_lam, r_dnew, r_err, r_base, r_serr, r_var, r_c, r_seq, r_next, r_break, r_cont, r_drop, r_ret, r_retN, r_if, r_ife, r_asg, r_name, r_op, r_un, r_nil, r_cons, r_lst2, r_tup2, r_lc, r_for, r_ilist, r_itup, r_istr, r_irng1, r_irng2, r_ienum, r_ienumS, wipe, r_cb, r_test, r_b, r_not, r_notV, r_andV, r_orV, r_isN, r_notN, r_m1, r_m0, r_fld, sFld, putF, r_par, r_sub, r_gtup, r_gnil, r_gcons, r_sl, r_nopart, r_part, r_bm, r_bm0, r_chain, r_call, r_callK, r_meth, r_prop, r_make, r_and, r_or, andT_t, andT_f, orT_t, orT_f, ifK_t, ifK_f, ifE_t, ifE_f, andK_t, andK_f, orK_t, orK_f, L2.start, List.map_cons, List.map_nil, List.length_cons, List.length_nil, List.replicate_succ, List.replicate_zero, List.cons_append, List.nil_append, List.getElem?_cons_succ, List.getElem?_cons_zero, List.set_cons_succ, List.set_cons_zero, Nat.reduceAdd, Nat.reduceSub, Nat.zero_add, decide_true, decide_false, Bool.not_true, Bool.not_false, if_true, if_false, rEq, rNe, scal_ii, scal_ss, scal_bb, scal_is, scal_si, scal_ns, scal_ni, scal_in, scal_sn, scal_nn, rI, rI0, rU, rIxLH, rIxTH, rLenH, rLenTH, rSetL, rCatN, rTupOfN, rLstOfN, rSlLN, rSlTN, CDiv, CPow, CMul, CDivW, rNeNil, rLenO, rSplitN, rRepN, r_replC, rMulS, r_methK, rRepTN, r_cmK, rCmpO, Bool.false_xor, Bool.true_xor, r_starT, r_starL, r_cm, r_cval, selK_t, selK_f, rAppend, rIsK, reduceCtorEq, upd_same, at0, at1, at2, at3, at4, at5, at6, at7, at8, at9, at10, at11, at12, at13, ix3_0, ix3_1, ix3_2, V.int.injEq, V.bl.injEq, V.str.injEq, V.ref.injEq, Option.some.injEq, HO.lst.injEq, HO.tup.injEq, HO.ins.injEq, List.cons.injEq, and_true, true_and, exists_eq_left, exists_eq_left', exists_and_left, exists_eq', exists_eq, and_assoc, N_law]
      refine ⟨t5, fun G6 e6 t6 => TTinv.intro ?_⟩
      try simp only [cxK, r_lam, r_dnew, r_err, r_base, r_serr, r_var, r_c, r_seq, r_next, r_break, r_cont, r_drop, r_ret, r_retN, r_if, r_ife, r_asg, r_name, r_op, r_un, r_nil, r_cons, r_lst2, r_tup2, r_lc, r_for, r_ilist, r_itup, r_istr, r_irng1, r_irng2, r_ienum, r_ienumS, wipe, r_cb, r_test, r_b, r_not, r_notV, r_andV, r_orV, r_isN, r_notN, r_m1, r_m0, r_fld, sFld, putF, r_par, r_sub, r_gtup, r_gnil, r_gcons, r_sl, r_nopart, r_part, r_bm, r_bm0, r_chain, r_call, r_callK, r_meth, r_prop, r_make, r_and, r_or, andT_t, andT_f, orT_t, orT_f, ifK_t, ifK_f, ifE_t, ifE_f, andK_t, andK_f, orK_t, orK_f, L2.start, List.map_cons, List.map_nil, List.length_cons, List.length_nil, List.replicate_succ, List.replicate_zero, List.cons_append, List.nil_append, List.getElem?_cons_succ, List.getElem?_cons_zero, List.set_cons_succ, List.set_cons_zero, Nat.reduceAdd, Nat.reduceSub, Nat.zero_add, decide_true, decide_false, Bool.not_true, Bool.not_false, if_true, if_false, rEq, rNe, scal_ii, scal_ss, scal_bb, scal_is, scal_si, scal_ns, scal_ni, scal_in, scal_sn, scal_nn, rI, rI0, rU, rIxLH, rIxTH, rLenH, rLenTH, rSetL, rCatN, rTupOfN, rLstOfN, rSlLN, rSlTN, CDiv, CPow, CMul, CDivW, rNeNil, rLenO, rSplitN, rRepN, r_replC, rMulS, r_methK, rRepTN, r_cmK, rCmpO, Bool.false_xor, Bool.true_xor, r_starT, r_starL, r_cm, r_cval, selK_t, selK_f, rAppend, rIsK, reduceCtorEq, upd_same, at0, at1, at2, at3, at4, at5, at6, at7, at8, at9, at10, at11, at12, at13, ix3_0, ix3_1, ix3_2, V.int.injEq, V.bl.injEq, V.str.injEq, V.ref.injEq, Option.some.injEq, HO.lst.injEq, HO.tup.injEq, HO.ins.injEq, List.cons.injEq, and_true, true_and, exists_eq_left, exists_eq_left', exists_and_left, exists_eq', exists_eq, and_assoc, N_law]
      refine parseKv ((hod.extN e5).extN e6) fun G7 s7 => ?_
      have ok : okS none = "path" := rfl
      rw [ok]
      try simp only [cxK, r_lam, r_dnew, r_err, r_base, r_serr, r_var, r_c, r_seq, r_next, r_break, r_cont, r_drop, r_ret, r_retN, r_if, r_ife, r_asg, r_name, r_op, r_un, r_nil, r_cons, r_lst2, r_tup2, r_lc, r_for, r_ilist, r_itup, r_istr, r_irng1, r_irng2, r_ienum, r_ienumS, wipe, r_cb, r_test, r_b, r_not, r_notV, r_andV, r_orV, r_isN, r_notN, r_m1, r_m0, r_fld, sFld, putF, r_par, r_sub, r_gtup, r_gnil, r_gcons, r_sl, r_nopart, r_part, r_bm, r_bm0, r_chain, r_call, r_callK, r_meth, r_prop, r_make, r_and, r_or, andT_t, andT_f, orT_t, orT_f, ifK_t, ifK_f, ifE_t, ifE_f, andK_t, andK_f, orK_t, orK_f, L2.start, List.map_cons, List.map_nil, List.length_cons, List.length_nil, List.replicate_succ, List.replicate_zero, List.cons_append, List.nil_append, List.getElem?_cons_succ, List.getElem?_cons_zero, List.set_cons_succ, List.set_cons_zero, Nat.reduceAdd, Nat.reduceSub, Nat.zero_add, decide_true, decide_false, Bool.not_true, Bool.not_false, if_true, if_false, rEq, rNe, scal_ii, scal_ss, scal_bb, scal_is, scal_si, scal_ns, scal_ni, scal_in, scal_sn, scal_nn, rI, rI0, rU, rIxLH, rIxTH, rLenH, rLenTH, rSetL, rCatN, rTupOfN, rLstOfN, rSlLN, rSlTN, CDiv, CPow, CMul, CDivW, rNeNil, rLenO, rSplitN, rRepN, r_replC, rMulS, r_methK, rRepTN, r_cmK, rCmpO, Bool.false_xor, Bool.true_xor, r_starT, r_starL, r_cm, r_cval, selK_t, selK_f, rAppend, rIsK, reduceCtorEq, upd_same, at0, at1, at2, at3, at4, at5, at6, at7, at8, at9, at10, at11, at12, at13, ix3_0, ix3_1, ix3_2, V.int.injEq, V.bl.injEq, V.str.injEq, V.ref.injEq, Option.some.injEq, HO.lst.injEq, HO.tup.injEq, HO.ins.injEq, List.cons.injEq, and_true, true_and, exists_eq_left, exists_eq_left', exists_and_left, exists_eq', exists_eq, and_assoc, N_law]
      exact ⟨_, rfl, ext_trans e5 (ext_trans e6 (ext_same s7)), tabs_same t6 s7⟩
    · rintro σ G6 ⟨v5, rfl, e5, t6⟩
      try simp only [cxK, r_lam, r_dnew, r_err, r_base, r_serr, r_var, r_c, r_seq, r_next, r_break, r_cont, r_drop, r_ret, r_retN, r_if, r_ife, r_asg, r_name, r_op, r_un, r_nil, r_cons, r_lst2, r_tup2, r_lc, r_for, r_ilist, r_itup, r_istr, r_irng1, r_irng2, r_ienum, r_ienumS, wipe, r_cb, r_test, r_b, r_not, r_notV, r_andV, r_orV, r_isN, r_notN, r_m1, r_m0, r_fld, sFld, putF, r_par, r_sub, r_gtup, r_gnil, r_gcons, r_sl, r_nopart, r_part, r_bm, r_bm0, r_chain, r_call, r_callK, r_meth, r_prop, r_make, r_and, r_or, andT_t, andT_f, orT_t, orT_f, ifK_t, ifK_f, ifE_t, ifE_f, andK_t, andK_f, orK_t, orK_f, L2.start, List.map_cons, List.map_nil, List.length_cons, List.length_nil, List.replicate_succ, List.replicate_zero, List.cons_append, List.nil_append, List.getElem?_cons_succ, List.getElem?_cons_zero, List.set_cons_succ, List.set_cons_zero, Nat.reduceAdd, Nat.reduceSub, Nat.zero_add, decide_true, decide_false, Bool.not_true, Bool.not_false, if_true, if_false, rEq, rNe, scal_ii, scal_ss, scal_bb, scal_is, scal_si, scal_ns, scal_ni, scal_in, scal_sn, scal_nn, rI, rI0, rU, rIxLH, rIxTH, rLenH, rLenTH, rSetL, rCatN, rTupOfN, rLstOfN, rSlLN, rSlTN, CDiv, CPow, CMul, CDivW, rNeNil, rLenO, rSplitN, rRepN, r_replC, rMulS, r_methK, rRepTN, r_cmK, rCmpO, Bool.false_xor, Bool.true_xor, r_starT, r_starL, r_cm, r_cval, selK_t, selK_f, rAppend, rIsK, reduceCtorEq, upd_same, at0, at1, at2, at3, at4, at5, at6, at7, at8, at9, at10, at11, at12, at13, ix3_0, ix3_1, ix3_2, V.int.injEq, V.bl.injEq, V.str.injEq, V.ref.injEq, Option.some.injEq, HO.lst.injEq, HO.tup.injEq, HO.ins.injEq, List.cons.injEq, and_true, true_and, exists_eq_left, exists_eq_left', exists_and_left, exists_eq', exists_eq, and_assoc, N_law]
      obtain ⟨n1, n2, n3, n4⟩ := lit_yes
      refine ⟨by decide, by decide, by decide, .str _, _, rfl, .inl ⟨_, rfl, mul_le (by decide), n1.symm⟩, fun ms p1 H1' er s1' hp1 _ _ => ?_, fun d fs G er => nomatch er⟩
      cases er
      obtain ⟨dx1, u1, k11, k12⟩ := hp1
      try simp only [cxK, r_lam, r_dnew, r_err, r_base, r_serr, r_var, r_c, r_seq, r_next, r_break, r_cont, r_drop, r_ret, r_retN, r_if, r_ife, r_asg, r_name, r_op, r_un, r_nil, r_cons, r_lst2, r_tup2, r_lc, r_for, r_ilist, r_itup, r_istr, r_irng1, r_irng2, r_ienum, r_ienumS, wipe, r_cb, r_test, r_b, r_not, r_notV, r_andV, r_orV, r_isN, r_notN, r_m1, r_m0, r_fld, sFld, putF, r_par, r_sub, r_gtup, r_gnil, r_gcons, r_sl, r_nopart, r_part, r_bm, r_bm0, r_chain, r_call, r_callK, r_meth, r_prop, r_make, r_and, r_or, andT_t, andT_f, orT_t, orT_f, ifK_t, ifK_f, ifE_t, ifE_f, andK_t, andK_f, orK_t, orK_f, L2.start, List.map_cons, List.map_nil, List.length_cons, List.length_nil, List.replicate_succ, List.replicate_zero, List.cons_append, List.nil_append, List.getElem?_cons_succ, List.getElem?_cons_zero, List.set_cons_succ, List.set_cons_zero, Nat.reduceAdd, Nat.reduceSub, Nat.zero_add, decide_true, decide_false, Bool.not_true, Bool.not_false, if_true, if_false, rEq, rNe, scal_ii, scal_ss, scal_bb, scal_is, scal_si, scal_ns, scal_ni, scal_in, scal_sn, scal_nn, rI, rI0, rU, rIxLH, rIxTH, rLenH, rLenTH, rSetL, rCatN, rTupOfN, rLstOfN, rSlLN, rSlTN, CDiv, CPow, CMul, CDivW, rNeNil, rLenO, rSplitN, rRepN, r_replC, rMulS, r_methK, rRepTN, r_cmK, rCmpO, Bool.false_xor, Bool.true_xor, r_starT, r_starL, r_cm, r_cval, selK_t, selK_f, rAppend, rIsK, reduceCtorEq, upd_same, at0, at1, at2, at3, at4, at5, at6, at7, at8, at9, at10, at11, at12, at13, ix3_0, ix3_1, ix3_2, V.int.injEq, V.bl.injEq, V.str.injEq, V.ref.injEq, Option.some.injEq, HO.lst.injEq, HO.tup.injEq, HO.ins.injEq, List.cons.injEq, and_true, true_and, exists_eq_left, exists_eq_left', exists_and_left, exists_eq', exists_eq, and_assoc, N_law, k11]
      refine ⟨(cls_ok (T.c.fact 14 (f := fCls "Path") rfl)), (noat_ok (T.c.fact 15 (f := fNo "Path" "names") rfl)), _, rfl, by decide, by decide, by decide, fits (by decide +kernel), .str _, _, rfl, .inl ⟨_, rfl, by decide +kernel, n2.symm⟩, fun ms p2 H2' er s2' hp2 _ _ => ?_, fun d fs G er => nomatch er⟩
      cases er
      obtain ⟨dx2, u2, k21, k22⟩ := hp2
      try simp only [cxK, r_lam, r_dnew, r_err, r_base, r_serr, r_var, r_c, r_seq, r_next, r_break, r_cont, r_drop, r_ret, r_retN, r_if, r_ife, r_asg, r_name, r_op, r_un, r_nil, r_cons, r_lst2, r_tup2, r_lc, r_for, r_ilist, r_itup, r_istr, r_irng1, r_irng2, r_ienum, r_ienumS, wipe, r_cb, r_test, r_b, r_not, r_notV, r_andV, r_orV, r_isN, r_notN, r_m1, r_m0, r_fld, sFld, putF, r_par, r_sub, r_gtup, r_gnil, r_gcons, r_sl, r_nopart, r_part, r_bm, r_bm0, r_chain, r_call, r_callK, r_meth, r_prop, r_make, r_and, r_or, andT_t, andT_f, orT_t, orT_f, ifK_t, ifK_f, ifE_t, ifE_f, andK_t, andK_f, orK_t, orK_f, L2.start, List.map_cons, List.map_nil, List.length_cons, List.length_nil, List.replicate_succ, List.replicate_zero, List.cons_append, List.nil_append, List.getElem?_cons_succ, List.getElem?_cons_zero, List.set_cons_succ, List.set_cons_zero, Nat.reduceAdd, Nat.reduceSub, Nat.zero_add, decide_true, decide_false, Bool.not_true, Bool.not_false, if_true, if_false, rEq, rNe, scal_ii, scal_ss, scal_bb, scal_is, scal_si, scal_ns, scal_ni, scal_in, scal_sn, scal_nn, rI, rI0, rU, rIxLH, rIxTH, rLenH, rLenTH, rSetL, rCatN, rTupOfN, rLstOfN, rSlLN, rSlTN, CDiv, CPow, CMul, CDivW, rNeNil, rLenO, rSplitN, rRepN, r_replC, rMulS, r_methK, rRepTN, r_cmK, rCmpO, Bool.false_xor, Bool.true_xor, r_starT, r_starL, r_cm, r_cval, selK_t, selK_f, rAppend, rIsK, reduceCtorEq, upd_same, at0, at1, at2, at3, at4, at5, at6, at7, at8, at9, at10, at11, at12, at13, ix3_0, ix3_1, ix3_2, V.int.injEq, V.bl.injEq, V.str.injEq, V.ref.injEq, Option.some.injEq, HO.lst.injEq, HO.tup.injEq, HO.ins.injEq, List.cons.injEq, and_true, true_and, exists_eq_left, exists_eq_left', exists_and_left, exists_eq', exists_eq, and_assoc, N_law, k21]
      refine ⟨(cls_ok (T.c.fact 14 (f := fCls "Path") rfl)), (noat_ok (T.c.fact 15 (f := fNo "Path" "names") rfl)), _, rfl, .str _, _, rfl, .inl ⟨_, rfl, by decide, n3.symm⟩, fun ms p3 H3' er s3' hp3 _ _ => ?_, fun d fs G er => nomatch er⟩
      cases er
      obtain ⟨dx3, u3, k31, k32⟩ := hp3
      try simp only [cxK, r_lam, r_dnew, r_err, r_base, r_serr, r_var, r_c, r_seq, r_next, r_break, r_cont, r_drop, r_ret, r_retN, r_if, r_ife, r_asg, r_name, r_op, r_un, r_nil, r_cons, r_lst2, r_tup2, r_lc, r_for, r_ilist, r_itup, r_istr, r_irng1, r_irng2, r_ienum, r_ienumS, wipe, r_cb, r_test, r_b, r_not, r_notV, r_andV, r_orV, r_isN, r_notN, r_m1, r_m0, r_fld, sFld, putF, r_par, r_sub, r_gtup, r_gnil, r_gcons, r_sl, r_nopart, r_part, r_bm, r_bm0, r_chain, r_call, r_callK, r_meth, r_prop, r_make, r_and, r_or, andT_t, andT_f, orT_t, orT_f, ifK_t, ifK_f, ifE_t, ifE_f, andK_t, andK_f, orK_t, orK_f, L2.start, List.map_cons, List.map_nil, List.length_cons, List.length_nil, List.replicate_succ, List.replicate_zero, List.cons_append, List.nil_append, List.getElem?_cons_succ, List.getElem?_cons_zero, List.set_cons_succ, List.set_cons_zero, Nat.reduceAdd, Nat.reduceSub, Nat.zero_add, decide_true, decide_false, Bool.not_true, Bool.not_false, if_true, if_false, rEq, rNe, scal_ii, scal_ss, scal_bb, scal_is, scal_si, scal_ns, scal_ni, scal_in, scal_sn, scal_nn, rI, rI0, rU, rIxLH, rIxTH, rLenH, rLenTH, rSetL, rCatN, rTupOfN, rLstOfN, rSlLN, rSlTN, CDiv, CPow, CMul, CDivW, rNeNil, rLenO, rSplitN, rRepN, r_replC, rMulS, r_methK, rRepTN, r_cmK, rCmpO, Bool.false_xor, Bool.true_xor, r_starT, r_starL, r_cm, r_cval, selK_t, selK_f, rAppend, rIsK, reduceCtorEq, upd_same, at0, at1, at2, at3, at4, at5, at6, at7, at8, at9, at10, at11, at12, at13, ix3_0, ix3_1, ix3_2, V.int.injEq, V.bl.injEq, V.str.injEq, V.ref.injEq, Option.some.injEq, HO.lst.injEq, HO.tup.injEq, HO.ins.injEq, List.cons.injEq, and_true, true_and, exists_eq_left, exists_eq_left', exists_and_left, exists_eq', exists_eq, and_assoc, N_law, k31]
      refine ⟨(cls_ok (T.c.fact 14 (f := fCls "Path") rfl)), (noat_ok (T.c.fact 15 (f := fNo "Path" "names") rfl)), _, rfl, fits (by decide), fun pl H4' n4' => ⟨Or.inl ⟨rfl, _, SqL.of n4'.at_⟩, .str _, _, rfl, .inl ⟨_, rfl, by decide, n4.symm⟩, fun ms p5 H5' er s5' hp5 _ _ => ?_, fun d fs G er => nomatch er⟩⟩
      cases er
      obtain ⟨dx5, u5, k51, k52⟩ := hp5
      have hpl5 := s5' _ _ n4'.at_
      try simp only [cxK, r_lam, r_dnew, r_err, r_base, r_serr, r_var, r_c, r_seq, r_next, r_break, r_cont, r_drop, r_ret, r_retN, r_if, r_ife, r_asg, r_name, r_op, r_un, r_nil, r_cons, r_lst2, r_tup2, r_lc, r_for, r_ilist, r_itup, r_istr, r_irng1, r_irng2, r_ienum, r_ienumS, wipe, r_cb, r_test, r_b, r_not, r_notV, r_andV, r_orV, r_isN, r_notN, r_m1, r_m0, r_fld, sFld, putF, r_par, r_sub, r_gtup, r_gnil, r_gcons, r_sl, r_nopart, r_part, r_bm, r_bm0, r_chain, r_call, r_callK, r_meth, r_prop, r_make, r_and, r_or, andT_t, andT_f, orT_t, orT_f, ifK_t, ifK_f, ifE_t, ifE_f, andK_t, andK_f, orK_t, orK_f, L2.start, List.map_cons, List.map_nil, List.length_cons, List.length_nil, List.replicate_succ, List.replicate_zero, List.cons_append, List.nil_append, List.getElem?_cons_succ, List.getElem?_cons_zero, List.set_cons_succ, List.set_cons_zero, Nat.reduceAdd, Nat.reduceSub, Nat.zero_add, decide_true, decide_false, Bool.not_true, Bool.not_false, if_true, if_false, rEq, rNe, scal_ii, scal_ss, scal_bb, scal_is, scal_si, scal_ns, scal_ni, scal_in, scal_sn, scal_nn, rI, rI0, rU, rIxLH, rIxTH, rLenH, rLenTH, rSetL, rCatN, rTupOfN, rLstOfN, rSlLN, rSlTN, CDiv, CPow, CMul, CDivW, rNeNil, rLenO, rSplitN, rRepN, r_replC, rMulS, r_methK, rRepTN, r_cmK, rCmpO, Bool.false_xor, Bool.true_xor, r_starT, r_starL, r_cm, r_cval, selK_t, selK_f, rAppend, rIsK, reduceCtorEq, upd_same, at0, at1, at2, at3, at4, at5, at6, at7, at8, at9, at10, at11, at12, at13, ix3_0, ix3_1, ix3_2, V.int.injEq, V.bl.injEq, V.str.injEq, V.ref.injEq, Option.some.injEq, HO.lst.injEq, HO.tup.injEq, HO.ins.injEq, List.cons.injEq, and_true, true_and, exists_eq_left, exists_eq_left', exists_and_left, exists_eq', exists_eq, and_assoc, N_law, k51]
      refine ⟨(cls_ok (T.c.fact 14 (f := fCls "Path") rfl)), (noat_ok (T.c.fact 15 (f := fNo "Path" "names") rfl)), _, rfl, ?_⟩
      try simp only [cxK, r_lam, r_dnew, r_err, r_base, r_serr, r_var, r_c, r_seq, r_next, r_break, r_cont, r_drop, r_ret, r_retN, r_if, r_ife, r_asg, r_name, r_op, r_un, r_nil, r_cons, r_lst2, r_tup2, r_lc, r_for, r_ilist, r_itup, r_istr, r_irng1, r_irng2, r_ienum, r_ienumS, wipe, r_cb, r_test, r_b, r_not, r_notV, r_andV, r_orV, r_isN, r_notN, r_m1, r_m0, r_fld, sFld, putF, r_par, r_sub, r_gtup, r_gnil, r_gcons, r_sl, r_nopart, r_part, r_bm, r_bm0, r_chain, r_call, r_callK, r_meth, r_prop, r_make, r_and, r_or, andT_t, andT_f, orT_t, orT_f, ifK_t, ifK_f, ifE_t, ifE_f, andK_t, andK_f, orK_t, orK_f, L2.start, List.map_cons, List.map_nil, List.length_cons, List.length_nil, List.replicate_succ, List.replicate_zero, List.cons_append, List.nil_append, List.getElem?_cons_succ, List.getElem?_cons_zero, List.set_cons_succ, List.set_cons_zero, Nat.reduceAdd, Nat.reduceSub, Nat.zero_add, decide_true, decide_false, Bool.not_true, Bool.not_false, if_true, if_false, rEq, rNe, scal_ii, scal_ss, scal_bb, scal_is, scal_si, scal_ns, scal_ni, scal_in, scal_sn, scal_nn, rI, rI0, rU, rIxLH, rIxTH, rLenH, rLenTH, rSetL, rCatN, rTupOfN, rLstOfN, rSlLN, rSlTN, CDiv, CPow, CMul, CDivW, rNeNil, rLenO, rSplitN, rRepN, r_replC, rMulS, r_methK, rRepTN, r_cmK, rCmpO, Bool.false_xor, Bool.true_xor, r_starT, r_starL, r_cm, r_cval, selK_t, selK_f, rAppend, rIsK, reduceCtorEq, upd_same, at0, at1, at2, at3, at4, at5, at6, at7, at8, at9, at10, at11, at12, at13, ix3_0, ix3_1, ix3_2, V.int.injEq, V.bl.injEq, V.str.injEq, V.ref.injEq, Option.some.injEq, HO.lst.injEq, HO.tup.injEq, HO.ins.injEq, List.cons.injEq, and_true, true_and, exists_eq_left, exists_eq_left', exists_and_left, exists_eq', exists_eq, and_assoc, N_law, hpl5]
      refine ⟨by rw [sizeLine_eq]; decide, ?_⟩
      obtain ⟨U, eU⟩ : ∃ U, U = upd H5' pl (HO.lst [V.ref u1, V.ref u2, V.ref u3, V.ref u5]) := ⟨_, rfl⟩
      rw [← eU]
      have hU : U pl = some (.lst [V.ref u1, V.ref u2, V.ref u3, V.ref u5]) := by rw [eU]; exact upd_same
      have ne : ∀ {p : Addr} {xs : List V}, H5' p = some (.tup xs) → U p = some (.tup xs) := fun {p xs} h => by
        rw [eU, upd_ne (fun e => by rw [e, hpl5] at h; cases h)]
        exact h
      have s25 := same_trans s3' (same_trans n4'.same s5')
      have c1 := ne (s25 _ _ (s2' _ _ k12))
      have c2 := ne (s25 _ _ k22)
      have c3 := ne (same_trans n4'.same s5' _ _ k32)
      have c5 := ne k52
      have tU : LamX.Tabs (TL lm K) U := by rw [eU]; exact tabs_upd (tabs_same t6 (same_trans s1' (same_trans s2' s25))) hpl5
      refine ⟨fits (by decide), fun w1 K1 m1 => ⟨fits (by decide), fun w2 K2 m2 => ?_⟩⟩
      have mm2 := m2.at_
      try simp only [cxK, r_lam, r_dnew, r_err, r_base, r_serr, r_var, r_c, r_seq, r_next, r_break, r_cont, r_drop, r_ret, r_retN, r_if, r_ife, r_asg, r_name, r_op, r_un, r_nil, r_cons, r_lst2, r_tup2, r_lc, r_for, r_ilist, r_itup, r_istr, r_irng1, r_irng2, r_ienum, r_ienumS, wipe, r_cb, r_test, r_b, r_not, r_notV, r_andV, r_orV, r_isN, r_notN, r_m1, r_m0, r_fld, sFld, putF, r_par, r_sub, r_gtup, r_gnil, r_gcons, r_sl, r_nopart, r_part, r_bm, r_bm0, r_chain, r_call, r_callK, r_meth, r_prop, r_make, r_and, r_or, andT_t, andT_f, orT_t, orT_f, ifK_t, ifK_f, ifE_t, ifE_f, andK_t, andK_f, orK_t, orK_f, L2.start, List.map_cons, List.map_nil, List.length_cons, List.length_nil, List.replicate_succ, List.replicate_zero, List.cons_append, List.nil_append, List.getElem?_cons_succ, List.getElem?_cons_zero, List.set_cons_succ, List.set_cons_zero, Nat.reduceAdd, Nat.reduceSub, Nat.zero_add, decide_true, decide_false, Bool.not_true, Bool.not_false, if_true, if_false, rEq, rNe, scal_ii, scal_ss, scal_bb, scal_is, scal_si, scal_ns, scal_ni, scal_in, scal_sn, scal_nn, rI, rI0, rU, rIxLH, rIxTH, rLenH, rLenTH, rSetL, rCatN, rTupOfN, rLstOfN, rSlLN, rSlTN, CDiv, CPow, CMul, CDivW, rNeNil, rLenO, rSplitN, rRepN, r_replC, rMulS, r_methK, rRepTN, r_cmK, rCmpO, Bool.false_xor, Bool.true_xor, r_starT, r_starL, r_cm, r_cval, selK_t, selK_f, rAppend, rIsK, reduceCtorEq, upd_same, at0, at1, at2, at3, at4, at5, at6, at7, at8, at9, at10, at11, at12, at13, ix3_0, ix3_1, ix3_2, V.int.injEq, V.bl.injEq, V.str.injEq, V.ref.injEq, Option.some.injEq, HO.lst.injEq, HO.tup.injEq, HO.ins.injEq, List.cons.injEq, and_true, true_and, exists_eq_left, exists_eq_left', exists_and_left, exists_eq', exists_eq, and_assoc, N_law, mm2]
      refine ⟨by simp, by decide, by decide, by decide, fun w3 K3 m3 => ⟨fits (by decide), fun w4 K4 m4 => ⟨fits (by decide), fun w5 K5 m5 => ⟨fits (by decide), fun w6 K6 m6 => ?_⟩⟩⟩⟩
      have sK : Same U K6 := same_trans m1.same (same_trans m2.same (same_trans m3.same (same_trans m4.same (same_trans m5.same m6.same))))
      have e1 : K6 w1 = some (.tup (([] : List Str).map V.str)) := m6.old (m5.old (m4.old (m3.old (m2.old m1.at_))))
      have e3 : K6 w3 = some (.tup ((List.replicate 12 (PySem.Str.ofString "a")).map V.str)) := m6.old (m5.old (m4.old m3.at_))
      have e4 : K6 w4 = some (.tup (([] : List Str).map V.str)) := m6.old (m5.old m4.at_)
      have e5' : K6 w5 = some (.tup ([PySem.Str.ofString "a", PySem.Str.ofString "c"].map V.str)) := m6.old m5.at_
      refine ⟨dat, dat, .lst (SqL.of (sK _ _ hU)) (.cons (.tup (SqT.of (sK _ _ c1)) (dp_strs _)) (.cons (.tup (SqT.of (sK _ _ c2)) (dp_strs _)) (.cons (.tup (SqT.of (sK _ _ c3)) (dp_strs _)) (.cons (.tup (SqT.of (sK _ _ c5)) (dp_strs _)) .nil)))), .lst (SqL.of m6.at_) (.cons (.tup (SqT.of e1) (dp_strs _)) (.cons (.tup (SqT.of e3) (dp_strs _)) (.cons (.tup (SqT.of e4) (dp_strs _)) (.cons (.tup (SqT.of e5') (dp_strs _)) .nil)))), dat_ok.1, dat_ok.1, ?_⟩
      have de : PyData.eqv dat dat = true := dat_ok.2
      try simp only [cxK, r_lam, r_dnew, r_err, r_base, r_serr, r_var, r_c, r_seq, r_next, r_break, r_cont, r_drop, r_ret, r_retN, r_if, r_ife, r_asg, r_name, r_op, r_un, r_nil, r_cons, r_lst2, r_tup2, r_lc, r_for, r_ilist, r_itup, r_istr, r_irng1, r_irng2, r_ienum, r_ienumS, wipe, r_cb, r_test, r_b, r_not, r_notV, r_andV, r_orV, r_isN, r_notN, r_m1, r_m0, r_fld, sFld, putF, r_par, r_sub, r_gtup, r_gnil, r_gcons, r_sl, r_nopart, r_part, r_bm, r_bm0, r_chain, r_call, r_callK, r_meth, r_prop, r_make, r_and, r_or, andT_t, andT_f, orT_t, orT_f, ifK_t, ifK_f, ifE_t, ifE_f, andK_t, andK_f, orK_t, orK_f, L2.start, List.map_cons, List.map_nil, List.length_cons, List.length_nil, List.replicate_succ, List.replicate_zero, List.cons_append, List.nil_append, List.getElem?_cons_succ, List.getElem?_cons_zero, List.set_cons_succ, List.set_cons_zero, Nat.reduceAdd, Nat.reduceSub, Nat.zero_add, decide_true, decide_false, Bool.not_true, Bool.not_false, if_true, if_false, rEq, rNe, scal_ii, scal_ss, scal_bb, scal_is, scal_si, scal_ns, scal_ni, scal_in, scal_sn, scal_nn, rI, rI0, rU, rIxLH, rIxTH, rLenH, rLenTH, rSetL, rCatN, rTupOfN, rLstOfN, rSlLN, rSlTN, CDiv, CPow, CMul, CDivW, rNeNil, rLenO, rSplitN, rRepN, r_replC, rMulS, r_methK, rRepTN, r_cmK, rCmpO, Bool.false_xor, Bool.true_xor, r_starT, r_starL, r_cm, r_cval, selK_t, selK_f, rAppend, rIsK, reduceCtorEq, upd_same, at0, at1, at2, at3, at4, at5, at6, at7, at8, at9, at10, at11, at12, at13, ix3_0, ix3_1, ix3_2, V.int.injEq, V.bl.injEq, V.str.injEq, V.ref.injEq, Option.some.injEq, HO.lst.injEq, HO.tup.injEq, HO.ins.injEq, List.cons.injEq, and_true, true_and, exists_eq_left, exists_eq_left', exists_and_left, exists_eq', exists_eq, and_assoc, N_law, de]
      refine ⟨tabs_same tU sK, fun X1 x1 y1 => TTinv.intro ?_⟩
      try simp only [cxK, r_lam, r_dnew, r_err, r_base, r_serr, r_var, r_c, r_seq, r_next, r_break, r_cont, r_drop, r_ret, r_retN, r_if, r_ife, r_asg, r_name, r_op, r_un, r_nil, r_cons, r_lst2, r_tup2, r_lc, r_for, r_ilist, r_itup, r_istr, r_irng1, r_irng2, r_ienum, r_ienumS, wipe, r_cb, r_test, r_b, r_not, r_notV, r_andV, r_orV, r_isN, r_notN, r_m1, r_m0, r_fld, sFld, putF, r_par, r_sub, r_gtup, r_gnil, r_gcons, r_sl, r_nopart, r_part, r_bm, r_bm0, r_chain, r_call, r_callK, r_meth, r_prop, r_make, r_and, r_or, andT_t, andT_f, orT_t, orT_f, ifK_t, ifK_f, ifE_t, ifE_f, andK_t, andK_f, orK_t, orK_f, L2.start, List.map_cons, List.map_nil, List.length_cons, List.length_nil, List.replicate_succ, List.replicate_zero, List.cons_append, List.nil_append, List.getElem?_cons_succ, List.getElem?_cons_zero, List.set_cons_succ, List.set_cons_zero, Nat.reduceAdd, Nat.reduceSub, Nat.zero_add, decide_true, decide_false, Bool.not_true, Bool.not_false, if_true, if_false, rEq, rNe, scal_ii, scal_ss, scal_bb, scal_is, scal_si, scal_ns, scal_ni, scal_in, scal_sn, scal_nn, rI, rI0, rU, rIxLH, rIxTH, rLenH, rLenTH, rSetL, rCatN, rTupOfN, rLstOfN, rSlLN, rSlTN, CDiv, CPow, CMul, CDivW, rNeNil, rLenO, rSplitN, rRepN, r_replC, rMulS, r_methK, rRepTN, r_cmK, rCmpO, Bool.false_xor, Bool.true_xor, r_starT, r_starL, r_cm, r_cval, selK_t, selK_f, rAppend, rIsK, reduceCtorEq, upd_same, at0, at1, at2, at3, at4, at5, at6, at7, at8, at9, at10, at11, at12, at13, ix3_0, ix3_1, ix3_2, V.int.injEq, V.bl.injEq, V.str.injEq, V.ref.injEq, Option.some.injEq, HO.lst.injEq, HO.tup.injEq, HO.ins.injEq, List.cons.injEq, and_true, true_and, exists_eq_left, exists_eq_left', exists_and_left, exists_eq', exists_eq, and_assoc, N_law]
      obtain ⟨z1, z2, z3⟩ := lit_none
      have okN : okS none = PySem.Str.ofString "path" := rfl
      refine ⟨by decide, by decide, by decide, parseKv (.inl ⟨_, rfl, mul_le (by decide), z1.symm⟩) fun X2 r2 => ?_⟩
      rw [okN]
      try simp only [cxK, r_lam, r_dnew, r_err, r_base, r_serr, r_var, r_c, r_seq, r_next, r_break, r_cont, r_drop, r_ret, r_retN, r_if, r_ife, r_asg, r_name, r_op, r_un, r_nil, r_cons, r_lst2, r_tup2, r_lc, r_for, r_ilist, r_itup, r_istr, r_irng1, r_irng2, r_ienum, r_ienumS, wipe, r_cb, r_test, r_b, r_not, r_notV, r_andV, r_orV, r_isN, r_notN, r_m1, r_m0, r_fld, sFld, putF, r_par, r_sub, r_gtup, r_gnil, r_gcons, r_sl, r_nopart, r_part, r_bm, r_bm0, r_chain, r_call, r_callK, r_meth, r_prop, r_make, r_and, r_or, andT_t, andT_f, orT_t, orT_f, ifK_t, ifK_f, ifE_t, ifE_f, andK_t, andK_f, orK_t, orK_f, L2.start, List.map_cons, List.map_nil, List.length_cons, List.length_nil, List.replicate_succ, List.replicate_zero, List.cons_append, List.nil_append, List.getElem?_cons_succ, List.getElem?_cons_zero, List.set_cons_succ, List.set_cons_zero, Nat.reduceAdd, Nat.reduceSub, Nat.zero_add, decide_true, decide_false, Bool.not_true, Bool.not_false, if_true, if_false, rEq, rNe, scal_ii, scal_ss, scal_bb, scal_is, scal_si, scal_ns, scal_ni, scal_in, scal_sn, scal_nn, rI, rI0, rU, rIxLH, rIxTH, rLenH, rLenTH, rSetL, rCatN, rTupOfN, rLstOfN, rSlLN, rSlTN, CDiv, CPow, CMul, CDivW, rNeNil, rLenO, rSplitN, rRepN, r_replC, rMulS, r_methK, rRepTN, r_cmK, rCmpO, Bool.false_xor, Bool.true_xor, r_starT, r_starL, r_cm, r_cval, selK_t, selK_f, rAppend, rIsK, reduceCtorEq, upd_same, at0, at1, at2, at3, at4, at5, at6, at7, at8, at9, at10, at11, at12, at13, ix3_0, ix3_1, ix3_2, V.int.injEq, V.bl.injEq, V.str.injEq, V.ref.injEq, Option.some.injEq, HO.lst.injEq, HO.tup.injEq, HO.ins.injEq, List.cons.injEq, and_true, true_and, exists_eq_left, exists_eq_left', exists_and_left, exists_eq', exists_eq, and_assoc, N_law]
      refine ⟨tabs_same y1 r2, fun X3 x3 y3 => TTinv.intro ?_⟩
      try simp only [cxK, r_lam, r_dnew, r_err, r_base, r_serr, r_var, r_c, r_seq, r_next, r_break, r_cont, r_drop, r_ret, r_retN, r_if, r_ife, r_asg, r_name, r_op, r_un, r_nil, r_cons, r_lst2, r_tup2, r_lc, r_for, r_ilist, r_itup, r_istr, r_irng1, r_irng2, r_ienum, r_ienumS, wipe, r_cb, r_test, r_b, r_not, r_notV, r_andV, r_orV, r_isN, r_notN, r_m1, r_m0, r_fld, sFld, putF, r_par, r_sub, r_gtup, r_gnil, r_gcons, r_sl, r_nopart, r_part, r_bm, r_bm0, r_chain, r_call, r_callK, r_meth, r_prop, r_make, r_and, r_or, andT_t, andT_f, orT_t, orT_f, ifK_t, ifK_f, ifE_t, ifE_f, andK_t, andK_f, orK_t, orK_f, L2.start, List.map_cons, List.map_nil, List.length_cons, List.length_nil, List.replicate_succ, List.replicate_zero, List.cons_append, List.nil_append, List.getElem?_cons_succ, List.getElem?_cons_zero, List.set_cons_succ, List.set_cons_zero, Nat.reduceAdd, Nat.reduceSub, Nat.zero_add, decide_true, decide_false, Bool.not_true, Bool.not_false, if_true, if_false, rEq, rNe, scal_ii, scal_ss, scal_bb, scal_is, scal_si, scal_ns, scal_ni, scal_in, scal_sn, scal_nn, rI, rI0, rU, rIxLH, rIxTH, rLenH, rLenTH, rSetL, rCatN, rTupOfN, rLstOfN, rSlLN, rSlTN, CDiv, CPow, CMul, CDivW, rNeNil, rLenO, rSplitN, rRepN, r_replC, rMulS, r_methK, rRepTN, r_cmK, rCmpO, Bool.false_xor, Bool.true_xor, r_starT, r_starL, r_cm, r_cval, selK_t, selK_f, rAppend, rIsK, reduceCtorEq, upd_same, at0, at1, at2, at3, at4, at5, at6, at7, at8, at9, at10, at11, at12, at13, ix3_0, ix3_1, ix3_2, V.int.injEq, V.bl.injEq, V.str.injEq, V.ref.injEq, Option.some.injEq, HO.lst.injEq, HO.tup.injEq, HO.ins.injEq, List.cons.injEq, and_true, true_and, exists_eq_left, exists_eq_left', exists_and_left, exists_eq', exists_eq, and_assoc, N_law]
      refine ⟨by decide, by decide, by decide, parseKv (.inl ⟨_, rfl, mul_le (by decide), z2.symm⟩) fun X4 r4 => ?_⟩
      rw [okN]
      try simp only [cxK, r_lam, r_dnew, r_err, r_base, r_serr, r_var, r_c, r_seq, r_next, r_break, r_cont, r_drop, r_ret, r_retN, r_if, r_ife, r_asg, r_name, r_op, r_un, r_nil, r_cons, r_lst2, r_tup2, r_lc, r_for, r_ilist, r_itup, r_istr, r_irng1, r_irng2, r_ienum, r_ienumS, wipe, r_cb, r_test, r_b, r_not, r_notV, r_andV, r_orV, r_isN, r_notN, r_m1, r_m0, r_fld, sFld, putF, r_par, r_sub, r_gtup, r_gnil, r_gcons, r_sl, r_nopart, r_part, r_bm, r_bm0, r_chain, r_call, r_callK, r_meth, r_prop, r_make, r_and, r_or, andT_t, andT_f, orT_t, orT_f, ifK_t, ifK_f, ifE_t, ifE_f, andK_t, andK_f, orK_t, orK_f, L2.start, List.map_cons, List.map_nil, List.length_cons, List.length_nil, List.replicate_succ, List.replicate_zero, List.cons_append, List.nil_append, List.getElem?_cons_succ, List.getElem?_cons_zero, List.set_cons_succ, List.set_cons_zero, Nat.reduceAdd, Nat.reduceSub, Nat.zero_add, decide_true, decide_false, Bool.not_true, Bool.not_false, if_true, if_false, rEq, rNe, scal_ii, scal_ss, scal_bb, scal_is, scal_si, scal_ns, scal_ni, scal_in, scal_sn, scal_nn, rI, rI0, rU, rIxLH, rIxTH, rLenH, rLenTH, rSetL, rCatN, rTupOfN, rLstOfN, rSlLN, rSlTN, CDiv, CPow, CMul, CDivW, rNeNil, rLenO, rSplitN, rRepN, r_replC, rMulS, r_methK, rRepTN, r_cmK, rCmpO, Bool.false_xor, Bool.true_xor, r_starT, r_starL, r_cm, r_cval, selK_t, selK_f, rAppend, rIsK, reduceCtorEq, upd_same, at0, at1, at2, at3, at4, at5, at6, at7, at8, at9, at10, at11, at12, at13, ix3_0, ix3_1, ix3_2, V.int.injEq, V.bl.injEq, V.str.injEq, V.ref.injEq, Option.some.injEq, HO.lst.injEq, HO.tup.injEq, HO.ins.injEq, List.cons.injEq, and_true, true_and, exists_eq_left, exists_eq_left', exists_and_left, exists_eq', exists_eq, and_assoc, N_law]
      refine ⟨fits (by decide), fun tl5 X5 n5 => ?_⟩
      have h5 := n5.at_
      try simp only [cxK, r_lam, r_dnew, r_err, r_base, r_serr, r_var, r_c, r_seq, r_next, r_break, r_cont, r_drop, r_ret, r_retN, r_if, r_ife, r_asg, r_name, r_op, r_un, r_nil, r_cons, r_lst2, r_tup2, r_lc, r_for, r_ilist, r_itup, r_istr, r_irng1, r_irng2, r_ienum, r_ienumS, wipe, r_cb, r_test, r_b, r_not, r_notV, r_andV, r_orV, r_isN, r_notN, r_m1, r_m0, r_fld, sFld, putF, r_par, r_sub, r_gtup, r_gnil, r_gcons, r_sl, r_nopart, r_part, r_bm, r_bm0, r_chain, r_call, r_callK, r_meth, r_prop, r_make, r_and, r_or, andT_t, andT_f, orT_t, orT_f, ifK_t, ifK_f, ifE_t, ifE_f, andK_t, andK_f, orK_t, orK_f, L2.start, List.map_cons, List.map_nil, List.length_cons, List.length_nil, List.replicate_succ, List.replicate_zero, List.cons_append, List.nil_append, List.getElem?_cons_succ, List.getElem?_cons_zero, List.set_cons_succ, List.set_cons_zero, Nat.reduceAdd, Nat.reduceSub, Nat.zero_add, decide_true, decide_false, Bool.not_true, Bool.not_false, if_true, if_false, rEq, rNe, scal_ii, scal_ss, scal_bb, scal_is, scal_si, scal_ns, scal_ni, scal_in, scal_sn, scal_nn, rI, rI0, rU, rIxLH, rIxTH, rLenH, rLenTH, rSetL, rCatN, rTupOfN, rLstOfN, rSlLN, rSlTN, CDiv, CPow, CMul, CDivW, rNeNil, rLenO, rSplitN, rRepN, r_replC, rMulS, r_methK, rRepTN, r_cmK, rCmpO, Bool.false_xor, Bool.true_xor, r_starT, r_starL, r_cm, r_cval, selK_t, selK_f, rAppend, rIsK, reduceCtorEq, upd_same, at0, at1, at2, at3, at4, at5, at6, at7, at8, at9, at10, at11, at12, at13, ix3_0, ix3_1, ix3_2, V.int.injEq, V.bl.injEq, V.str.injEq, V.ref.injEq, Option.some.injEq, HO.lst.injEq, HO.tup.injEq, HO.ins.injEq, List.cons.injEq, and_true, true_and, exists_eq_left, exists_eq_left', exists_and_left, exists_eq', exists_eq, and_assoc, N_law, h5]
      refine ⟨Or.inl ⟨rfl, _, SqL.of h5⟩, tabs_same y3 (same_trans r4 n5.same), fun X6 x6 y6 => TTinv.intro ?_⟩
      try simp only [cxK, r_lam, r_dnew, r_err, r_base, r_serr, r_var, r_c, r_seq, r_next, r_break, r_cont, r_drop, r_ret, r_retN, r_if, r_ife, r_asg, r_name, r_op, r_un, r_nil, r_cons, r_lst2, r_tup2, r_lc, r_for, r_ilist, r_itup, r_istr, r_irng1, r_irng2, r_ienum, r_ienumS, wipe, r_cb, r_test, r_b, r_not, r_notV, r_andV, r_orV, r_isN, r_notN, r_m1, r_m0, r_fld, sFld, putF, r_par, r_sub, r_gtup, r_gnil, r_gcons, r_sl, r_nopart, r_part, r_bm, r_bm0, r_chain, r_call, r_callK, r_meth, r_prop, r_make, r_and, r_or, andT_t, andT_f, orT_t, orT_f, ifK_t, ifK_f, ifE_t, ifE_f, andK_t, andK_f, orK_t, orK_f, L2.start, List.map_cons, List.map_nil, List.length_cons, List.length_nil, List.replicate_succ, List.replicate_zero, List.cons_append, List.nil_append, List.getElem?_cons_succ, List.getElem?_cons_zero, List.set_cons_succ, List.set_cons_zero, Nat.reduceAdd, Nat.reduceSub, Nat.zero_add, decide_true, decide_false, Bool.not_true, Bool.not_false, if_true, if_false, rEq, rNe, scal_ii, scal_ss, scal_bb, scal_is, scal_si, scal_ns, scal_ni, scal_in, scal_sn, scal_nn, rI, rI0, rU, rIxLH, rIxTH, rLenH, rLenTH, rSetL, rCatN, rTupOfN, rLstOfN, rSlLN, rSlTN, CDiv, CPow, CMul, CDivW, rNeNil, rLenO, rSplitN, rRepN, r_replC, rMulS, r_methK, rRepTN, r_cmK, rCmpO, Bool.false_xor, Bool.true_xor, r_starT, r_starL, r_cm, r_cval, selK_t, selK_f, rAppend, rIsK, reduceCtorEq, upd_same, at0, at1, at2, at3, at4, at5, at6, at7, at8, at9, at10, at11, at12, at13, ix3_0, ix3_1, ix3_2, V.int.injEq, V.bl.injEq, V.str.injEq, V.ref.injEq, Option.some.injEq, HO.lst.injEq, HO.tup.injEq, HO.ins.injEq, List.cons.injEq, and_true, true_and, exists_eq_left, exists_eq_left', exists_and_left, exists_eq', exists_eq, and_assoc, N_law]
      refine ⟨by decide, by decide, by decide, fits (by decide +kernel), parseKv (.inl ⟨_, rfl, by decide +kernel, z3.symm⟩) fun X7 r7 => ?_⟩
      rw [okN]
      have h7 := r7 _ _ (x6 _ _ h5 nofun)
      try simp only [cxK, r_lam, r_dnew, r_err, r_base, r_serr, r_var, r_c, r_seq, r_next, r_break, r_cont, r_drop, r_ret, r_retN, r_if, r_ife, r_asg, r_name, r_op, r_un, r_nil, r_cons, r_lst2, r_tup2, r_lc, r_for, r_ilist, r_itup, r_istr, r_irng1, r_irng2, r_ienum, r_ienumS, wipe, r_cb, r_test, r_b, r_not, r_notV, r_andV, r_orV, r_isN, r_notN, r_m1, r_m0, r_fld, sFld, putF, r_par, r_sub, r_gtup, r_gnil, r_gcons, r_sl, r_nopart, r_part, r_bm, r_bm0, r_chain, r_call, r_callK, r_meth, r_prop, r_make, r_and, r_or, andT_t, andT_f, orT_t, orT_f, ifK_t, ifK_f, ifE_t, ifE_f, andK_t, andK_f, orK_t, orK_f, L2.start, List.map_cons, List.map_nil, List.length_cons, List.length_nil, List.replicate_succ, List.replicate_zero, List.cons_append, List.nil_append, List.getElem?_cons_succ, List.getElem?_cons_zero, List.set_cons_succ, List.set_cons_zero, Nat.reduceAdd, Nat.reduceSub, Nat.zero_add, decide_true, decide_false, Bool.not_true, Bool.not_false, if_true, if_false, rEq, rNe, scal_ii, scal_ss, scal_bb, scal_is, scal_si, scal_ns, scal_ni, scal_in, scal_sn, scal_nn, rI, rI0, rU, rIxLH, rIxTH, rLenH, rLenTH, rSetL, rCatN, rTupOfN, rLstOfN, rSlLN, rSlTN, CDiv, CPow, CMul, CDivW, rNeNil, rLenO, rSplitN, rRepN, r_replC, rMulS, r_methK, rRepTN, r_cmK, rCmpO, Bool.false_xor, Bool.true_xor, r_starT, r_starL, r_cm, r_cval, selK_t, selK_f, rAppend, rIsK, reduceCtorEq, upd_same, at0, at1, at2, at3, at4, at5, at6, at7, at8, at9, at10, at11, at12, at13, ix3_0, ix3_1, ix3_2, V.int.injEq, V.bl.injEq, V.str.injEq, V.ref.injEq, Option.some.injEq, HO.lst.injEq, HO.tup.injEq, HO.ins.injEq, List.cons.injEq, and_true, true_and, exists_eq_left, exists_eq_left', exists_and_left, exists_eq', exists_eq, and_assoc, N_law, h7]
      refine ⟨by rw [sizeLine_eq]; decide, fits (by decide), fun b1 X8 n8 => ?_⟩
      have h8 := n8.at_
      have htl8 := n8.old (x := _) (b := tl5) upd_same
      try simp only [cxK, r_lam, r_dnew, r_err, r_base, r_serr, r_var, r_c, r_seq, r_next, r_break, r_cont, r_drop, r_ret, r_retN, r_if, r_ife, r_asg, r_name, r_op, r_un, r_nil, r_cons, r_lst2, r_tup2, r_lc, r_for, r_ilist, r_itup, r_istr, r_irng1, r_irng2, r_ienum, r_ienumS, wipe, r_cb, r_test, r_b, r_not, r_notV, r_andV, r_orV, r_isN, r_notN, r_m1, r_m0, r_fld, sFld, putF, r_par, r_sub, r_gtup, r_gnil, r_gcons, r_sl, r_nopart, r_part, r_bm, r_bm0, r_chain, r_call, r_callK, r_meth, r_prop, r_make, r_and, r_or, andT_t, andT_f, orT_t, orT_f, ifK_t, ifK_f, ifE_t, ifE_f, andK_t, andK_f, orK_t, orK_f, L2.start, List.map_cons, List.map_nil, List.length_cons, List.length_nil, List.replicate_succ, List.replicate_zero, List.cons_append, List.nil_append, List.getElem?_cons_succ, List.getElem?_cons_zero, List.set_cons_succ, List.set_cons_zero, Nat.reduceAdd, Nat.reduceSub, Nat.zero_add, decide_true, decide_false, Bool.not_true, Bool.not_false, if_true, if_false, rEq, rNe, scal_ii, scal_ss, scal_bb, scal_is, scal_si, scal_ns, scal_ni, scal_in, scal_sn, scal_nn, rI, rI0, rU, rIxLH, rIxTH, rLenH, rLenTH, rSetL, rCatN, rTupOfN, rLstOfN, rSlLN, rSlTN, CDiv, CPow, CMul, CDivW, rNeNil, rLenO, rSplitN, rRepN, r_replC, rMulS, r_methK, rRepTN, r_cmK, rCmpO, Bool.false_xor, Bool.true_xor, r_starT, r_starL, r_cm, r_cval, selK_t, selK_f, rAppend, rIsK, reduceCtorEq, upd_same, at0, at1, at2, at3, at4, at5, at6, at7, at8, at9, at10, at11, at12, at13, ix3_0, ix3_1, ix3_2, V.int.injEq, V.bl.injEq, V.str.injEq, V.ref.injEq, Option.some.injEq, HO.lst.injEq, HO.tup.injEq, HO.ins.injEq, List.cons.injEq, and_true, true_and, exists_eq_left, exists_eq_left', exists_and_left, exists_eq', exists_eq, and_assoc, N_law, h8]
      refine ⟨by decide, by decide, by decide, fun b2 X9 n9 => ?_⟩
      refine eqD_strL (xs := [PySem.Str.ofString "path", PySem.Str.ofString "path", PySem.Str.ofString "path"]) (ys := [PySem.Str.ofString "path", PySem.Str.ofString "path", PySem.Str.ofString "path"]) (n9.old htl8) n9.at_ path3 path3 ?_
      rw [decide_eq_true rfl]
      try simp only [cxK, r_lam, r_dnew, r_err, r_base, r_serr, r_var, r_c, r_seq, r_next, r_break, r_cont, r_drop, r_ret, r_retN, r_if, r_ife, r_asg, r_name, r_op, r_un, r_nil, r_cons, r_lst2, r_tup2, r_lc, r_for, r_ilist, r_itup, r_istr, r_irng1, r_irng2, r_ienum, r_ienumS, wipe, r_cb, r_test, r_b, r_not, r_notV, r_andV, r_orV, r_isN, r_notN, r_m1, r_m0, r_fld, sFld, putF, r_par, r_sub, r_gtup, r_gnil, r_gcons, r_sl, r_nopart, r_part, r_bm, r_bm0, r_chain, r_call, r_callK, r_meth, r_prop, r_make, r_and, r_or, andT_t, andT_f, orT_t, orT_f, ifK_t, ifK_f, ifE_t, ifE_f, andK_t, andK_f, orK_t, orK_f, L2.start, List.map_cons, List.map_nil, List.length_cons, List.length_nil, List.replicate_succ, List.replicate_zero, List.cons_append, List.nil_append, List.getElem?_cons_succ, List.getElem?_cons_zero, List.set_cons_succ, List.set_cons_zero, Nat.reduceAdd, Nat.reduceSub, Nat.zero_add, decide_true, decide_false, Bool.not_true, Bool.not_false, if_true, if_false, rEq, rNe, scal_ii, scal_ss, scal_bb, scal_is, scal_si, scal_ns, scal_ni, scal_in, scal_sn, scal_nn, rI, rI0, rU, rIxLH, rIxTH, rLenH, rLenTH, rSetL, rCatN, rTupOfN, rLstOfN, rSlLN, rSlTN, CDiv, CPow, CMul, CDivW, rNeNil, rLenO, rSplitN, rRepN, r_replC, rMulS, r_methK, rRepTN, r_cmK, rCmpO, Bool.false_xor, Bool.true_xor, r_starT, r_starL, r_cm, r_cval, selK_t, selK_f, rAppend, rIsK, reduceCtorEq, upd_same, at0, at1, at2, at3, at4, at5, at6, at7, at8, at9, at10, at11, at12, at13, ix3_0, ix3_1, ix3_2, V.int.injEq, V.bl.injEq, V.str.injEq, V.ref.injEq, Option.some.injEq, HO.lst.injEq, HO.tup.injEq, HO.ins.injEq, List.cons.injEq, and_true, true_and, exists_eq_left, exists_eq_left', exists_and_left, exists_eq', exists_eq, and_assoc, N_law]
      obtain ⟨ns12, g12, l12⟩ := lit_twelve
      refine ⟨by decide, by decide, by decide, .str _, _, rfl, .inl ⟨_, rfl, mul_le (by decide), g12.symm⟩, fun ms p9 X10 er r10 hp9 _ _ => ?_, fun d fs G er => nomatch er⟩
      cases er
      obtain ⟨dx9, u9, k91, k92⟩ := hp9
      try simp only [cxK, r_lam, r_dnew, r_err, r_base, r_serr, r_var, r_c, r_seq, r_next, r_break, r_cont, r_drop, r_ret, r_retN, r_if, r_ife, r_asg, r_name, r_op, r_un, r_nil, r_cons, r_lst2, r_tup2, r_lc, r_for, r_ilist, r_itup, r_istr, r_irng1, r_irng2, r_ienum, r_ienumS, wipe, r_cb, r_test, r_b, r_not, r_notV, r_andV, r_orV, r_isN, r_notN, r_m1, r_m0, r_fld, sFld, putF, r_par, r_sub, r_gtup, r_gnil, r_gcons, r_sl, r_nopart, r_part, r_bm, r_bm0, r_chain, r_call, r_callK, r_meth, r_prop, r_make, r_and, r_or, andT_t, andT_f, orT_t, orT_f, ifK_t, ifK_f, ifE_t, ifE_f, andK_t, andK_f, orK_t, orK_f, L2.start, List.map_cons, List.map_nil, List.length_cons, List.length_nil, List.replicate_succ, List.replicate_zero, List.cons_append, List.nil_append, List.getElem?_cons_succ, List.getElem?_cons_zero, List.set_cons_succ, List.set_cons_zero, Nat.reduceAdd, Nat.reduceSub, Nat.zero_add, decide_true, decide_false, Bool.not_true, Bool.not_false, if_true, if_false, rEq, rNe, scal_ii, scal_ss, scal_bb, scal_is, scal_si, scal_ns, scal_ni, scal_in, scal_sn, scal_nn, rI, rI0, rU, rIxLH, rIxTH, rLenH, rLenTH, rSetL, rCatN, rTupOfN, rLstOfN, rSlLN, rSlTN, CDiv, CPow, CMul, CDivW, rNeNil, rLenO, rSplitN, rRepN, r_replC, rMulS, r_methK, rRepTN, r_cmK, rCmpO, Bool.false_xor, Bool.true_xor, r_starT, r_starL, r_cm, r_cval, selK_t, selK_f, rAppend, rIsK, reduceCtorEq, upd_same, at0, at1, at2, at3, at4, at5, at6, at7, at8, at9, at10, at11, at12, at13, ix3_0, ix3_1, ix3_2, V.int.injEq, V.bl.injEq, V.str.injEq, V.ref.injEq, Option.some.injEq, HO.lst.injEq, HO.tup.injEq, HO.ins.injEq, List.cons.injEq, and_true, true_and, exists_eq_left, exists_eq_left', exists_and_left, exists_eq', exists_eq, and_assoc, N_law, k91]
      refine ⟨p9, _, rfl, ⟨dx9, u9, k91, k92⟩, _, rfl, by omega, by rw [List.length_map]; omega, ?_⟩
      rw [List.length_map, l12]
      exact q X10

end
end FLG

namespace FLG
abbrev R : PySem.W.OpenRow := PySem.W.OpenLaw.row PySem.Challenge.rw_filelayer_k03_path_strings_read
abbrev hk : PySem.W.Hook := FLm.hookL 600 fa fn lm
def ob (s : PySem.W.SharedT) : FLm.AlL := FLm.obsL 600 fa fn lm (HandSHeadRun.getT s)
theorem ob_eq (s : PySem.W.SharedT) : ob s = hk.obs s.abs := FLm.obsL_eq (HandSHeadRun.getT_eq s)
def loose : List PySem.Str := (["_wall", "__name__", "Invalid", "BadPath", "BadName", "BadNumber", "MAX_NAMES", "MAX_PATH", "NAME_SIGNS", "MAX_NAME", "is_integer", "is_name", "names_after", "names_in", "Path", "_law_source", "_law_next", "_law_pick", "_law_good_name", "_law_invalid", "_law_part", "_law_names_of", "_law_right"] : List PySem.Str)
theorem run (w : PySem.World) : HandSHeadRun.RunEq R (PySem.W.view R.prog [26]) hk ob 6000 loose w := by
  intro os
  kernel_rfl
end FLG
open PySem PySem.W PySem.Calls PyProof.Rows
theorem PySem.Challenge.cw_filelayer_k03_path_strings_read_holds : PySem.Challenge.rw_filelayer_k03_path_strings_read.Holds := by
  w_on; o_law
  refine HandSHeadRun.head_any (r := OpenLaw.row PySem.Challenge.rw_filelayer_k03_path_strings_read) (q := view (OpenLaw.row PySem.Challenge.rw_filelayer_k03_path_strings_read).prog [26]) (H := FLG.hk) (ob := FLG.ob) (M := 6000) (loose := FLG.loose) (d := HandSHeadRun.topDef (OpenLaw.row PySem.Challenge.rw_filelayer_k03_path_strings_read).prog 26) (kwd := []) FLG.ob_eq
    (by kernel_rfl) (fun s => by kernel_rfl) FLG.run (by kernel_rfl) (by kernel_rfl) (by kernel_rfl) (by rfl) (by first | assumption | decide +kernel) (by decide +kernel) ⟨rfl, rfl, rfl, rfl, rfl, by decide +kernel⟩ ?hw ?hc
  case hw => w_witness2
  case hc =>
    refine FLm.walk_tab (lm := FLG.lm) (l := PySem.Challenge.rw_filelayer_k03_path_strings_read) (n := 63) (k := 11) rfl (by decide) (by kernel_rfl) (by decide) ?F
    intro w mg f h Y G hmg0
    obtain ⟨K, KX, c, dn, tb⟩ := Y
    have hmg : mg ("law" : PySem.Str) = some (.ref f) := by
      have e : (HandSHeadRun.topDef (OpenLaw.row PySem.Challenge.rw_filelayer_k03_path_strings_read).prog 26).name = ("law" : PySem.Str) := by kernel_rfl
      rw [← e]
      exact hmg0
    have T : FH.Tx FLG.fa FLG.fn K mg := ⟨c, h, KX, G⟩
    have e := hmg.symm.trans (FLG.g_law T)
    cases e
    exact ⟨K, FLG.spLaw K, KX, tb, fun H a ns hl hT hS => ⟨a, ns, rfl, hl, hS, FLm.TL_nil hT, fun _ => rfl⟩, fun base _ _ B => FLG.ok_law T B dn⟩
