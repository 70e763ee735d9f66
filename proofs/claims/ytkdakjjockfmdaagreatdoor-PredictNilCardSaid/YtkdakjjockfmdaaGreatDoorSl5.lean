/- States at cuts; what exits come to; contracts; regions that draw. -/
import Derived.Test.YtkdakjjockfmdaaGreatDoorSl4
namespace Go.Proofs.YtkdakjjockfmdaaGreatDoor.SL
open Go Go.RowKit
set_option linter.unusedVariables false
set_option linter.unusedSimpArgs false

/-- What a loop comes to: the function returns, or it goes on behind the loop. -/
inductive Out (ρ σ : Type) where
  | ret (r : ρ)
  | go (s : σ)
def Out.el {ρ σ β : Type} (t : Out ρ σ) (f : ρ → Option β) (g : σ → Option β) : Option β := match t with | .ret r => f r | .go s => g s
theorem el_ret {ρ σ β : Type} {r : ρ} {f : ρ → Option β} {g : σ → Option β} {x : β} (h : Out.el (.ret r) f g = some x) : f r = some x := h
theorem el_go {ρ σ β : Type} {s : σ} {f : ρ → Option β} {g : σ → Option β} {x : β} (h : Out.el (.go s) f g = some x) : g s = some x := h

/-- A state at a cut: the frame's slots that count, the atoms that count. -/
structure St (l : List (Nat × Value)) (B : List Asrt) (e : Env) (ds : List Deferred) (As : List Asrt) : Prop where
  env : AllEq e l
  dfs : ds = []
  gh : Gh As B

theorem Gh.refl (As : List Asrt) : Gh As As := Gh.of fun _ _ s => s
theorem Gh.sel {As B : List Asrt} (ks : List Nat) (hs : selOk ks As = true) (he : sel ks As = B) : Gh As B := Gh.of fun _ _ s => he ▸ sepL_sel hs s
theorem Gh.app {As B C : List Asrt} (h : Gh As B) : Gh (As ++ C) (B ++ C) := fun I hh w s f => by
  obtain ⟨h1, h2, sp, sa, sb⟩ := sepL_split s
  obtain ⟨I', h1', g, s'⟩ := h I h1 w sa (f.less sp.1)
  obtain ⟨g', sp'⟩ := Goes.frame f sp g
  exact ⟨I', _, g', sepL_append sp' s' (sepL_mono g.le sb)⟩
theorem St.mk1 {l : List (Nat × Value)} {B : List Asrt} {e : Env} {As : List Asrt} (h : AllEq e l) (g : Gh As B) : St l B e [] As := ⟨h, rfl, g⟩

section
variable {P : Program} {n : Nat} {Q : PostT} {e : Env} {ds : List Deferred} {As B : List Asrt} {l : List (Nat × Value)} {K : Env → List Deferred → List Asrt → Prop}

theorem SA.of_St {c : Code} (s : St l B e ds As) (h : ∀ junk, SA P n c Q (updL junk l) [] B) : SA P n c Q e ds As := by
  obtain ⟨h1, rfl, h3⟩ := s
  refine SA.ghost h3 ?_
  have := h e
  rwa [← updL_self h1] at this

theorem at_normal (h : K e ds As) : thn K Q .normal e ds As := h
theorem thn_exit {i : Nat} (h : Q (.exit i) e ds As) : thn K Q (.exit i) e ds As := h
theorem thn_ret (h : Q .ret e ds As) : thn K Q .ret e ds As := h
theorem inb_normal {i : Nat} (h : Q .normal e ds As) : inb i Q .normal e ds As := h
theorem inb_ret {i : Nat} (h : Q .ret e ds As) : inb i Q .ret e ds As := h
theorem inb_hit {i : Nat} (h : Q .normal e ds As) : inb i Q (.exit i) e ds As := by
  show (bif Nat.beq i i then _ else _)
  rw [Nat.beq_refl]; exact h
theorem inb_miss {i j : Nat} (hb : Nat.beq j i = false) (h : Q (.exit j) e ds As) : inb i Q (.exit j) e ds As := by
  show (bif Nat.beq j i then _ else _)
  rw [hb]; exact h

/-- A panic's post looks at no frame. -/
def PanOk (Q : PostT) : Prop := ∀ c e e' ds As, Q (.panic c) e ds As → Q (.panic c) e' ds As
theorem PanOk.thn (h : PanOk Q) : PanOk (thn K Q) := h
theorem PanOk.inb {i : Nat} (h : PanOk Q) : PanOk (inb i Q) := h
theorem PanOk.body {fn : Func} {R : Ending → List Asrt → Prop} : PanOk (BodyQ P fn R) := fun _ _ _ _ _ h => h

/-- A contract that returns: the value, and the atoms behind it. -/
def Ret (R : Value → List Asrt → Prop) : Ending → List Asrt → Prop := fun x As => ∃ v B, x = .returned v ∧ Gh As B ∧ R v B
def SCA (P : Program) (f : FuncId) (args : Array Value) (pre : List Asrt) (R : Value → List Asrt → Prop) : Prop := SC P f args pre (Ret R)

theorem SCA.mono {f : FuncId} {args : Array Value} {pre : List Asrt} {R R' : Value → List Asrt → Prop} (h : SCA P f args pre R) (hr : ∀ v B, R v B → R' v B) : SCA P f args pre R' :=
  SC.mono h fun x As ⟨v, B, hx, g, r⟩ => ⟨v, B, hx, g, hr v B r⟩
theorem SCA.pre {f : FuncId} {args : Array Value} {pre pre' : List Asrt} {R : Value → List Asrt → Prop} (h : SCA P f args pre R) (hg : Gh pre' pre) : SCA P f args pre' R := fun I hh w s ft => by
  obtain ⟨I1, h1, g1, s1⟩ := hg I hh w s ft
  exact (h I1 h1 w s1 g1.fits).mono fun x w' ⟨hx, As', I', h', s', g, r⟩ => ⟨hx, As', I', h', s', g1.trans g, r⟩

theorem OA_callA {o : Oper} {f : FuncId} {args : Array Value} {pre : List Asrt} {R : Value → List Asrt → Prop} (ks rs : List Nat) (hd : okDst o.dst n = true)
    (hv : ∀ w, (execOp (ev e) o).run P w = .ok (.enter f args) w) (hs : selOk (ks ++ rs) As = true)
    (hc : SCA P f args pre R) (hp : sel ks As = pre)
    (h : ∀ v B, R v B → K (put e o.dst v) ds (B ++ sel rs As)) : OA P n o K Q e ds As := by
  intro I h' a w s r ft
  have s2 := sepL_sel hs s
  have es : sel (ks ++ rs) As = pre ++ sel rs As := by rw [← hp]; simp [sel]
  rw [es] at s2
  obtain ⟨h1, h2, sp, sa, sb⟩ := sepL_split s2
  unfold Oper.wp
  rw [r.eval, hv w]
  simp only [Oper.upon]
  refine (hc I h1 w sa (ft.less sp.1)).mono fun x w' hx => ?_
  obtain ⟨_, As', I', h1', s1, g, v, B, rfl, hG, hR⟩ := hx
  obtain ⟨I2, h2', g2, s2'⟩ := hG I' h1' w' s1 g.fits
  have gg := g.trans g2
  obtain ⟨g', sp'⟩ := Goes.frame ft sp gg
  exact ⟨_, ds, B ++ sel rs As, I2, _, r.put hd v, sepL_append sp' s2' (sepL_mono gg.le sb), g', h v B hR⟩

theorem BQ_R1 {fn : Func} {R : Value → List Asrt → Prop} {t : Nat} {v : Value} (B : List Asrt) (h : fn.results = #[.tmp t]) (hv : e t = v) (hg : Gh As B) (hR : R v B) : BodyQ P fn (Ret R) .ret e [] As := BQ_ret1 h hv rfl ⟨v, B, rfl, hg, hR⟩
theorem BQ_R2 {fn : Func} {R : Value → List Asrt → Prop} {t1 t2 : Nat} {v1 v2 : Value} (B : List Asrt) (h : fn.results = #[.tmp t1, .tmp t2]) (h1 : e t1 = v1) (h2 : e t2 = v2) (hg : Gh As B) (hR : R (.tuple #[v1, v2]) B) : BodyQ P fn (Ret R) .ret e [] As := BQ_ret2 h h1 h2 rfl ⟨_, B, rfl, hg, hR⟩
theorem BQ_R3 {fn : Func} {R : Value → List Asrt → Prop} {t1 t2 t3 : Nat} {v1 v2 v3 : Value} (B : List Asrt) (h : fn.results = #[.tmp t1, .tmp t2, .tmp t3]) (h1 : e t1 = v1) (h2 : e t2 = v2) (h3 : e t3 = v3) (hg : Gh As B) (hR : R (.tuple #[v1, v2, v3]) B) : BodyQ P fn (Ret R) .ret e [] As := BQ_ret3 h h1 h2 h3 rfl ⟨_, B, rfl, hg, hR⟩
theorem BQ_R0 {fn : Func} {R : Value → List Asrt → Prop} (B : List Asrt) (h : fn.results = #[]) (hg : Gh As B) (hR : R (.tuple #[]) B) : BodyQ P fn (Ret R) .ret e [] As := BQ_ret0 h rfl ⟨_, B, rfl, hg, hR⟩
theorem BQ_n0 {fn : Func} {R : Value → List Asrt → Prop} (B : List Asrt) (h : fn.results = #[]) (hg : Gh As B) (hR : R (.tuple #[]) B) : BodyQ P fn (Ret R) .normal e [] As := BQ_R0 (e := e) B h hg hR

/-- Inside a region: a cut between two operations. -/
theorem RA_nil {ops : Array Oper} (h : Q .normal e ds As) : RA P n ops Q [] e ds As := h

theorem OA.mono {o : Oper} {K' : Env → List Deferred → List Asrt → Prop} (h : OA P n o K Q e ds As) (hk : ∀ e ds As, K e ds As → K' e ds As) : OA P n o K' Q e ds As := fun I h' a w s r f =>
  Oper.wp_mono (fun a' w' ⟨e', ds', As', I', h'', r', s', g', q⟩ => ⟨e', ds', As', I', h'', r', s', g', hk _ _ _ q⟩) (h I h' a w s r f)

theorem RA_mono {ops : Array Oper} {Q' : PostT} (hp : ∀ x e ds As, x ≠ .normal → Q' x e ds As → Q x e ds As) : ∀ {os : List Oper} {e : Env} {ds : List Deferred} {As : List Asrt},
    RA P n ops Q' os e ds As → (∀ e ds As, Q' .normal e ds As → Q .normal e ds As) → RA P n ops Q os e ds As
  | [], _, _, _, h, k => k _ _ _ h
  | o :: os, _, _, _, h, k => fun I h' a w s r f => by
    rcases h I h' a w s r f with ⟨hw, hwp⟩ | ⟨hw, hd, hk⟩
    · refine .inl ⟨hw, ?_⟩
      have next : ∀ a' w', (∃ e' ds' As' I' h'', Rel n e' ds' a' ∧ sepL As' I' h'' ∧ Goes I h' w I' h'' w' ∧ RA P n ops Q' os e' ds' As') → (∃ e' ds' As' I' h'', Rel n e' ds' a' ∧ sepL As' I' h'' ∧ Goes I h' w I' h'' w' ∧ RA P n ops Q os e' ds' As') :=
        fun a' w' ⟨e', ds', As', I', h'', r', s', g', q⟩ => ⟨e', ds', As', I', h'', r', s', g', RA_mono hp q k⟩
      have post : ∀ x a' w', PostA n Q' I h' w x a' w' → x ≠ .normal → PostA n Q I h' w x a' w' := fun x a' w' ⟨e', ds', As', I', h'', r', s', g', q⟩ hx => ⟨e', ds', As', I', h'', r', s', g', hp _ _ _ _ hx q⟩
      unfold Oper.wp at *
      generalize (execOp a.eval o).run P w = res at *
      cases res with
      | ok x w' =>
        cases x <;> simp only [Oper.upon] at hwp ⊢ <;> first
          | exact next _ _ hwp
          | exact Calls.mono hwp (fun ee w'' he => by cases ee <;> first | exact next _ _ he | exact post _ _ _ he (by simp) | (obtain ⟨a2, w2, q⟩ := he; exact ⟨a2, w2, post _ _ _ q (by simp)⟩))
          | exact Rows.mono hwp (fun _ _ he => next _ _ he)
      | halt x w' => cases x <;> simp only [Oper.upon] at hwp ⊢ <;> exact post _ _ _ hwp (by simp)
    · exact .inr ⟨hw, hd, RA_mono hp hk k⟩

theorem RA_split {ops : Array Oper} {M : Env → List Deferred → List Asrt → Prop} : ∀ (os : List Oper) {os2 : List Oper} {e : Env} {ds : List Deferred} {As : List Asrt},
    RA P n ops (thn M Q) os e ds As → (∀ e ds As, M e ds As → RA P n ops Q os2 e ds As) → RA P n ops Q (os ++ os2) e ds As
  | [], _, _, _, _, h, k => k _ _ _ h
  | o :: os, os2, _, _, _, h, k => fun I h' a w s r f => by
    rcases h I h' a w s r f with ⟨hw, hwp⟩ | ⟨hw, hd, hk⟩
    · refine .inl ⟨hw, ?_⟩
      have next : ∀ a' w', (∃ e' ds' As' I' h'', Rel n e' ds' a' ∧ sepL As' I' h'' ∧ Goes I h' w I' h'' w' ∧ RA P n ops (thn M Q) os e' ds' As') → (∃ e' ds' As' I' h'', Rel n e' ds' a' ∧ sepL As' I' h'' ∧ Goes I h' w I' h'' w' ∧ RA P n ops Q (os ++ os2) e' ds' As') :=
        fun a' w' ⟨e', ds', As', I', h'', r', s', g', q⟩ => ⟨e', ds', As', I', h'', r', s', g', RA_split os q k⟩
      have post : ∀ x a' w', x ≠ .normal → PostA n (thn M Q) I h' w x a' w' → PostA n Q I h' w x a' w' := fun x a' w' hx ⟨e', ds', As', I', h'', r', s', g', q⟩ => ⟨e', ds', As', I', h'', r', s', g', by cases x <;> first | exact absurd rfl hx | exact q⟩
      unfold Oper.wp at *
      generalize (execOp a.eval o).run P w = res at *
      cases res with
      | ok x w' =>
        cases x <;> simp only [Oper.upon] at hwp ⊢ <;> first
          | exact next _ _ hwp
          | exact Calls.mono hwp (fun ee w'' he => by cases ee <;> first | exact next _ _ he | exact post _ _ _ (by simp) he | (obtain ⟨a2, w2, q⟩ := he; exact ⟨a2, w2, post _ _ _ (by simp) q⟩))
          | exact Rows.mono hwp (fun _ _ he => next _ _ he)
      | halt x w' => cases x <;> simp only [Oper.upon] at hwp ⊢ <;> exact post _ _ _ (by simp) hwp
    · exact .inr ⟨hw, hd, RA_split os hk k⟩

theorem RA.of_St {ops : Array Oper} {o : Oper} {os : List Oper} (hgu : o.guard = none) (s : St l B e ds As) (h : ∀ junk, RA P n ops Q (o :: os) (updL junk l) [] B) : RA P n ops Q (o :: os) e ds As := by
  obtain ⟨h1, rfl, h3⟩ := s
  have hh := h e
  rw [← updL_self h1] at hh
  intro I h' a w s r f
  obtain ⟨I1, h1', g1, s1⟩ := h3 I h' w s f
  rcases hh I1 h1' a w s1 r g1.fits with ⟨hw, hwp⟩ | ⟨hw, hd, hk⟩
  · refine .inl ⟨hw, ?_⟩
    have next : ∀ a' w', (∃ e' ds' As' I' h'', Rel n e' ds' a' ∧ sepL As' I' h'' ∧ Goes I1 h1' w I' h'' w' ∧ RA P n ops Q os e' ds' As') → (∃ e' ds' As' I' h'', Rel n e' ds' a' ∧ sepL As' I' h'' ∧ Goes I h' w I' h'' w' ∧ RA P n ops Q os e' ds' As') :=
      fun a' w' ⟨e', ds', As', I', h'', r', s', g', q⟩ => ⟨e', ds', As', I', h'', r', s', g1.trans g', q⟩
    unfold Oper.wp at *
    generalize (execOp a.eval o).run P w = res at *
    cases res with
    | ok x w' =>
      cases x <;> simp only [Oper.upon] at hwp ⊢ <;> first
        | exact next _ _ hwp
        | exact Calls.mono hwp (fun ee w'' he => by cases ee <;> first | exact next _ _ he | exact PostA.goes g1 he | (obtain ⟨a2, w2, q⟩ := he; exact ⟨a2, w2, PostA.goes g1 q⟩))
        | exact Rows.mono hwp (fun _ _ he => next _ _ he)
    | halt x w' => cases x <;> simp only [Oper.upon] at hwp ⊢ <;> exact PostA.goes g1 hwp
  · simp [Region.wanted, hgu] at hw

/-! ### a region that draws its order -/
/-- Whatever comes up next: what is held (hS) is read alone; the rest is As. -/
def DA (P : Program) (n : Nat) (ops : Array Oper) (Q : PostT) (I0 hS h0 : Hp) (w0 : World) (fuel : Nat) (listed : Array Bool) (e : Env) (ds : List Deferred) (As : List Asrt) : Prop :=
  ∀ I h a w, sepL As I h → Rel n e ds a → Fits I h w → Goes I0 h0 w0 I h w → Sees I0 hS w → wpAnyH P .any ops (PostA n Q I0 h0 w0) (Sees I0 hS) fuel listed a w

/-- In each world in which what is held stands, o tells v. -/
abbrev VH (P : Program) (Hs : List Asrt) (e : Env) (o : Oper) (v : Value) : Prop := VR P Hs e o v

theorem SA_draw {id : Nat} {ops : List Oper} (ks rs : List Nat) {Hs Bs : List Asrt} (hm : P.follows .mixedOrders = true) (hs : selOk (ks ++ rs) As = true) (eH : sel ks As = Hs) (eB : sel rs As = Bs)
    (h : ∀ I0 hS h0 w0, sepL Hs I0 hS → (∀ b o, hS b = some o → b < w0.heap.size ∧ h0 b = none) → DA P n ops.toArray (fun x e ds As => Q x e ds (Hs ++ As)) I0 hS h0 w0 ops.length (Array.replicate ops.length false) e ds Bs) : SA P n (.region id ops.toArray true) Q e ds As := by
  intro I hh a w s r f
  have s2 := sepL_sel hs s
  have es : sel (ks ++ rs) As = Hs ++ Bs := by rw [← eH, ← eB]; simp [sel]
  rw [es] at s2
  obtain ⟨h1, h2, sp, sa, sb⟩ := sepL_split s2
  have fd := (Goes.drew f).fits
  have f2 := fd.less sp.2.1
  have hsees : Sees I h1 { w with drawn := w.drawn + 1 } := ⟨fd.imm, fun b o e => fd.own b o (sp.1 b o e)⟩
  have hw := h I h1 h2 { w with drawn := w.drawn + 1 } sa (fun b o e => ⟨lt_of_heap (f.own b o (sp.1 b o e)), sp.2.2 b o e⟩) I h2 a _ sb r f2 (Goes.refl f2) hsees
  have := wp_region_held (id := id) hm (by rw [List.size_toArray]; exact hw)
  refine wp_mono this fun x a' w' p => ?_
  obtain ⟨e', ds', As', I', h', r', s', g', q⟩ := p
  have sp' : Split hh h2 h1 := ⟨sp.2.1, sp.1, fun b o e => by
    cases z : h1 b with
    | none => rfl
    | some u => rw [sp.2.2 b u z] at e; cases e⟩
  obtain ⟨gg, sj⟩ := Goes.frame fd sp' g'
  refine ⟨e', ds', Hs ++ As', I', _, r', sepL_append ⟨sj.2.1, sj.1, fun b o e => ?_⟩ (sepL_mono g'.le sa) s', (Goes.drew f).trans gg, q⟩
  cases z : h' b with
  | none => rfl
  | some u => rw [sj.2.2 b u z] at e; cases e

theorem DA_take {ops : Array Oper} {I0 hS h0 : Hp} {w0 : World} {Hs : List Asrt} {fuel : Nat} {listed : Array Bool} {v : Value} {oi : Oper} (i : Nat) (hi : ops[i]? = some oi) (hgu : oi.guard = none) (hsel : Region.noSelect ops = true) (hf : Region.free .any ops listed i = true) (hr : (Region.ready .any ops listed).contains i = true)
    (hQ : PanOk Q) (hd : okDst oi.dst n = true) (sH : sepL Hs I0 hS) (hv : VR P Hs e oi v) (h : DA P n ops Q I0 hS h0 w0 fuel (listed.setIfInBounds i true) (put e oi.dst v) ds As) : DA P n ops Q I0 hS h0 w0 (fuel + 1) listed e ds As := by
  intro I hh a w s r f g se
  refine wpAnyH_take hi hsel hf hr ?_ (.inl ⟨by simp [Region.wanted, hgu], fun w' sw => ?_⟩) se (h I hh _ w s (r.put hd v) f g se)
  · rintro c a' w' ⟨e', ds', As', I', h', r', s', g', q⟩
    refine ⟨fun t => a'.tmps.getD t undef, ds', As', I', h', ⟨?_, fun t => rfl, ?_⟩, s', g', hQ _ _ _ _ _ q⟩
    · rw [← r'.size]; cases hdd : oi.dst <;> simp [Act.put]
    · rw [← r'.defers]; cases hdd : oi.dst <;> simp [Act.put]
  · rw [r.eval]; exact hv I0 hS w' sH sw

/-- A guarded operation: taken, or passed by. -/
theorem DA_takeG {ops : Array Oper} {I0 hS h0 : Hp} {w0 : World} {Hs : List Asrt} {fuel : Nat} {listed : Array Bool} {v : Value} {oi : Oper} {j t : Nat} {want : Bool} (i : Nat) (hi : ops[i]? = some oi) (hgu : oi.guard = some (j, want)) (hj : (ops[j]?).bind (·.dst) = some t) (ht : Nat.blt t n = true) (he : e t = .bool want) (hsel : Region.noSelect ops = true) (hf : Region.free .any ops listed i = true) (hr : (Region.ready .any ops listed).contains i = true)
    (hQ : PanOk Q) (hd : okDst oi.dst n = true) (sH : sepL Hs I0 hS) (hv : VR P Hs e oi v) (h : DA P n ops Q I0 hS h0 w0 fuel (listed.setIfInBounds i true) (put e oi.dst v) ds As) : DA P n ops Q I0 hS h0 w0 (fuel + 1) listed e ds As := by
  intro I hh a w s r f g se
  refine wpAnyH_take hi hsel hf hr ?_ (.inl ⟨by simp [Region.wanted, hgu, yielded_rel r hj (by simpa using ht), he], fun w' sw => ?_⟩) se (h I hh _ w s (r.put hd v) f g se)
  · rintro c a' w' ⟨e', ds', As', I', h', r', s', g', q⟩
    refine ⟨fun t => a'.tmps.getD t undef, ds', As', I', h', ⟨?_, fun t => rfl, ?_⟩, s', g', hQ _ _ _ _ _ q⟩
    · rw [← r'.size]; cases hdd : oi.dst <;> simp [Act.put]
    · rw [← r'.defers]; cases hdd : oi.dst <;> simp [Act.put]
  · rw [r.eval]; exact hv I0 hS w' sH sw

theorem DA_skip {ops : Array Oper} {I0 hS h0 : Hp} {w0 : World} {fuel : Nat} {listed : Array Bool} {oi : Oper} {j t : Nat} {want : Bool} (i : Nat) (hi : ops[i]? = some oi) (hgu : oi.guard = some (j, want)) (hj : (ops[j]?).bind (·.dst) = some t) (ht : Nat.blt t n = true) (he : e t = .bool (!want)) (hsel : Region.noSelect ops = true) (hf : Region.free .any ops listed i = true) (hr : (Region.ready .any ops listed).contains i = true)
    (hQ : PanOk Q) (hd : okDst oi.dst n = true) (h : DA P n ops Q I0 hS h0 w0 fuel (listed.setIfInBounds i true) (put e oi.dst undef) ds As) : DA P n ops Q I0 hS h0 w0 (fuel + 1) listed e ds As := by
  intro I hh a w s r f g se
  refine wpAnyH_take hi hsel hf hr ?_ (.inr ⟨by simp [Region.wanted, hgu, yielded_rel r hj (by simpa using ht), he], rfl⟩) se (h I hh _ w s (r.put hd undef) f g se)
  rintro c a' w' ⟨e', ds', As', I', h', r', s', g', q⟩
  refine ⟨fun t => a'.tmps.getD t undef, ds', As', I', h', ⟨?_, fun t => rfl, ?_⟩, s', g', hQ _ _ _ _ _ q⟩
  · rw [← r'.size]; cases hdd : oi.dst <;> simp [Act.put]
  · rw [← r'.defers]; cases hdd : oi.dst <;> simp [Act.put]

/-- One that writes or makes memory, where nothing else may come up. -/
theorem DA_one {ops : Array Oper} {I0 hS h0 : Hp} {w0 : World} {fuel : Nat} {listed : Array Bool} {oi : Oper} (i : Nat) (hi : ops[i]? = some oi) (hgu : oi.guard = none) (hr : Region.ready .any ops listed = [i]) (hD : ∀ b o, hS b = some o → b < w0.heap.size ∧ h0 b = none)
    (h : OA P n oi (DA P n ops Q I0 hS h0 w0 fuel (listed.setIfInBounds i true)) Q e ds As) : DA P n ops Q I0 hS h0 w0 (fuel + 1) listed e ds As := by
  intro I hh a w s r f g se
  refine wpAnyH_all hr (by simp) fun k hk => ?_
  obtain rfl : k = i := by simpa using hk
  have hwp := h I hh a w s r f
  unfold wpOp
  simp only [hi]
  have hwant : Region.wanted oi (yielded ops a.tmps) = true := by simp [Region.wanted, hgu]
  simp only [hwant, if_true]
  refine .inl ?_
  have next : ∀ a' w', (∃ e' ds' As' I' h'', Rel n e' ds' a' ∧ sepL As' I' h'' ∧ Goes I hh w I' h'' w' ∧ DA P n ops Q I0 hS h0 w0 fuel (listed.setIfInBounds k true) e' ds' As') → Sees I0 hS w' ∧ wpAnyH P .any ops (PostA n Q I0 h0 w0) (Sees I0 hS) fuel (listed.setIfInBounds k true) a' w' := fun a' w' ⟨e', ds', As', I', h'', r', s', g', q⟩ => by
    have gg := g.trans g'
    have se' : Sees I0 hS w' := by
      refine ⟨fun b o e => gg.fits.imm b o (gg.le b o e), fun b o e => ?_⟩
      have hb := lt_of_heap (se.own b o e)
      have hn : hh b = none := by
        cases z : hh b with
        | none => rfl
        | some u =>
          exfalso
          have := (g.kept b (hD b o e).1 (hD b o e).2).2.1
          rw [this] at z; cases z
      rw [(g'.kept b hb hn).1]; exact se.own b o e
    exact ⟨se', q I' h'' a' w' s' r' g'.fits gg se'⟩
  unfold Oper.wp at *
  generalize (execOp a.eval oi).run P w = res at *
  cases res with
  | ok x w' =>
    cases x <;> simp only [Oper.upon] at hwp ⊢ <;> first
      | exact next _ _ hwp
      | exact Calls.mono hwp (fun ee w'' he => by cases ee <;> first | exact next _ _ he | exact PostA.goes g he | (obtain ⟨a2, w2, q⟩ := he; exact ⟨a2, w2, PostA.goes g q⟩))
      | exact Rows.mono hwp (fun _ _ he => next _ _ he)
  | halt x w' => cases x <;> simp only [Oper.upon] at hwp ⊢ <;> exact PostA.goes g hwp

theorem DA_done {ops : Array Oper} {I0 hS h0 : Hp} {w0 : World} {fuel : Nat} {listed : Array Bool} (hr : Region.ready .any ops listed = []) (h : Q .normal e ds As) : DA P n ops Q I0 hS h0 w0 fuel listed e ds As :=
  fun I hh a w s r f g se => wpAnyH_done hr ⟨e, ds, As, I, hh, r, s, g, h⟩ fuel
end
end Go.Proofs.YtkdakjjockfmdaaGreatDoor.SL
