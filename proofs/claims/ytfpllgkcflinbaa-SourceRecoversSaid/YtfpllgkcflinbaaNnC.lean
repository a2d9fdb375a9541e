/- A machine that runs the given program with memory and order of evaluation taken apart from the model's, and the proof that what it answers is what the model answers. Part 3 of 3. -/
import Derived.Below
import Derived.Test.YtfpllgkcflinbaaNnB
namespace Nm
open Go

section
variable {P : Program} {S : Nat → List NV → Option NV}

theorem code_step (hM : P.follows .mixedOrders = true) {n : Nat} (hO : CodeOK P S n) (hC : CallsOK P S (ev P S n)) : CodeOK P S (n + 1) := by
  intro c nc fn bl la hc hk rnd d o d' hrun st hst B b k ι a cs w hfn hT s hsz
  have self : ∀ {x : Code} {nx : NC} {bl la : List Nat}, compC P x = some nx → CheckCode.code P fn bl la x = .ok () → ∀ {d1 : Dyn} {o1 : Out} {d2 : Dyn}, ev P S n rnd nx d1 = .mk o1 d2 → ∀ {st : Item}, Starts st x →
      ∀ {k : List Item} {ι : Inj} {a : Act} {cs : List Frame} {w : World}, TR ι d1.t a.tmps → Sd P ι B rnd d1.dfs d1.ctx d1.h b a.defers cs w → fn.ntmps ≤ a.tmps.size →
      Goes P B rnd b k (lone (b.atR a (st :: k)) cs w) ι d1.ctx d1.h a.tmps.size cs w o1 d2 :=
    fun hx hkx _ _ _ hr _ hs _ _ _ _ _ hT s hsz => hO _ _ fn _ _ hx hkx rnd _ _ _ hr _ hs B b _ _ _ _ _ hfn hT s hsz
  have hcode : (∀ x, c ≠ .loop x) → st = .code c := fun h => by
    rcases hst with h1 | ⟨x, h1, _⟩
    · exact h1
    · exact absurd h1 (h x)
  cases c with
  | skip =>
    rw [hcode (by simp)]
    cases hc
    have hrun' : (Res.mk .norm d) = .mk o d' := hrun
    cases hrun'
    exact ⟨ι, a, cs, w, .one stepR_skip, hT, Mv.refl s, rfl⟩
  | region id ops draw =>
    rw [hcode (by simp)]
    cases draw with
    | false =>
      have hc' : (match compOpers P ops ops.toList 0 [] with | some l => some (NC.reg l) | none => none) = some nc := hc
      split at hc'
      · rename_i l hl
        cases hc'
        have hrun' : runOps P S (ev P S n) rnd l d = .mk o d' := hrun
        obtain ⟨t, dfs, ctx, h⟩ := d
        refine Goes.of_steps (.one stepR_region) ?_
        have := ops_sound (k := k) hC (code_region hk) ops.toList 0 l [] (fun j => by simp) hl t dfs ctx h o d' hrun' ι a cs w hT s hsz
        rw [List.range_eq_range']
        simpa using this
      · cases hc'
    | true =>
      obtain ⟨l, rfl, hL⟩ := lay_of hc
      have hrun' : cRegD P S (ev P S n) l rnd d = .mk o d' := hrun
      have hs' : Sd P ι B rnd d.dfs d.ctx d.h b a.defers cs w.drew := ⟨s.df, s.cx, s.rel.drew, s.base, s.rn⟩
      refine Goes.undrew (Goes.of_steps (.one stepR_region_draw) ?_)
      have hsch : Region.schedule (P.follows .mixedOrders) ops (w.tape w.drawn (.order b.fn id)) = Region.linearise .any ops (w.tape w.drawn (.order b.fn id)) := by unfold Region.schedule; rw [hM]; rfl
      rw [hsch]
      exact draw_sound hC (code_region hk) hL hsz hrun' hs' hT rfl _
  | seq x y =>
    rw [hcode (by simp)]
    have hc' : (match compC P x with | some a => (match compC P y with | some b => some (NC.seq a b) | none => none) | none => none) = some nc := hc
    split at hc'
    · rename_i nx hx
      split at hc'
      · rename_i ny hy
        cases hc'
        obtain ⟨k1, k2⟩ := code_seq hk
        have hrun' : (match ev P S n rnd nx d with
          | .mk o d => (match o with
            | .norm => ev P S n rnd ny d
            | o => .mk o d)
          | .fail => .fail) = Res.mk o d' := hrun
        refine Goes.of_steps (.one stepR_seq) ?_
        cases he : ev P S n rnd nx d with
        | fail => rw [he] at hrun'; cases hrun'
        | mk o1 d1 =>
          rw [he] at hrun'
          have g1 := self hx k1 he (.inl rfl) (k := .code y :: k) hT s hsz
          cases o1 with
          | norm =>
            exact g1.then fun ι' a' cs' w' hT' s' hz => by
              have := self hy k2 hrun' (.inl rfl) (k := k) hT' s' (by rw [hz]; exact hsz)
              rw [hz] at this; exact this
          | ret => cases hrun'; exact g1.out (by simp) (by simp)
          | exit id => cases hrun'; exact g1.out (fun _ _ => rfl) (by simp)
          | pan v => cases hrun'; exact g1.out (by simp) (by simp)
      · cases hc'
    · cases hc'
  | cond e x y =>
    rw [hcode (by simp)]
    have hc' : (match compOpd e with
      | some c => (match compC P x with | some a => (match compC P y with | some b => some (NC.cond c a b) | none => none) | none => none)
      | none => none) = some nc := hc
    split at hc'
    · rename_i ne hne
      split at hc'
      · rename_i nx hx
        split at hc'
        · rename_i ny hy
          cases hc'
          obtain ⟨k1, k2⟩ := code_cond hk
          have hrun' : (match ρ d.t ne with
            | some (.bool c) => Bool.rec (ev P S n rnd ny d) (ev P S n rnd nx d) c
            | _ => .fail) = Res.mk o d' := hrun
          cases hv : ρ d.t ne with
          | none => rw [hv] at hrun'; cases hrun'
          | some v =>
            rw [hv] at hrun'
            cases v with
            | bool q =>
              have hq := OE_of hT e ne hne _ hv
              have hev : a.eval e = .bool q := by generalize a.eval e = z at hq; cases hq; rfl
              refine Goes.of_steps (.one (stepR_cond hev)) ?_
              cases q with
              | true => exact self hx k1 hrun' (.inl rfl) hT s hsz
              | false => exact self hy k2 hrun' (.inl rfl) hT s hsz
            | _ => cases hrun'
        · cases hc'
      · cases hc'
    · cases hc'
  | block id x =>
    rw [hcode (by simp)]
    have hc' : (match compC P x with | some a => forceN id fun id => some (NC.block id a) | none => none) = some nc := hc
    split at hc'
    · rename_i nx hx
      rw [forceN_eq] at hc'
      cases hc'
      have k1 := code_block hk
      have hrun' : (match ev P S n rnd nx d with
        | .mk o d => (match o with
          | .exit i => cond (Nat.beq i id) (.mk .norm d) (.mk (.exit i) d)
          | o => .mk o d)
        | .fail => .fail) = Res.mk o d' := hrun
      refine Goes.of_steps (.one stepR_block) ?_
      cases he : ev P S n rnd nx d with
      | fail => rw [he] at hrun'; cases hrun'
      | mk o1 d1 =>
        rw [he] at hrun'
        have g1 := self hx k1 he (.inl rfl) (k := .inBlock id :: k) hT s hsz
        cases o1 with
        | norm =>
          cases hrun'
          obtain ⟨ι1, a1, cs1, w1, q1, q2⟩ := g1
          exact ⟨ι1, a1, cs1, w1, Steps.trans q1 (.one stepR_inBlock), q2⟩
        | ret => cases hrun'; exact g1.out (by simp) (by simp)
        | exit i =>
          dsimp only at hrun'
          cases hb : Nat.beq i id with
          | true =>
            rw [hb] at hrun'
            cases hrun'
            have := Nat.eq_of_beq_eq_true hb
            subst this
            obtain ⟨ι1, a1, cs1, w1, ⟨k0, q0, q1⟩, q2⟩ := g1
            refine ⟨ι1, a1, cs1, w1, Steps.trans q1 (.one (stepR_exit ?_)), q2⟩
            rw [q0]; simp [exitTo]
          | false =>
            rw [hb] at hrun'
            cases hrun'
            have hne := Nat.ne_of_beq_eq_false hb
            refine g1.out (fun i' hi' => ?_) (by simp)
            cases hi'
            have : (id == i) = false := by simpa using fun e => hne e.symm
            simp [exitTo, this]
        | pan v => cases hrun'; exact g1.out (by simp) (by simp)
    · cases hc'
  | loop x =>
    have hc' : (match compC P x with | some a => some (NC.loop a) | none => none) = some nc := hc
    split at hc'
    · rename_i nx hx
      cases hc'
      have k1 := code_loop hk
      have hrun' : (match ev P S n rnd nx d with
        | .mk o d => (match o with
          | .norm => ev P S n rnd (.loop nx) d
          | o => .mk o d)
        | .fail => .fail) = Res.mk o d' := hrun
      have h1 : Steps P (lone (b.atR a (st :: k)) cs w) (lone (b.atR a (.code x :: .inLoop x :: k)) cs w) := by
        rcases hst with rfl | ⟨y, hy, rfl⟩
        · exact .one stepR_loop
        · cases hy; exact .one stepR_inLoop
      refine Goes.of_steps h1 ?_
      cases he : ev P S n rnd nx d with
      | fail => rw [he] at hrun'; cases hrun'
      | mk o1 d1 =>
        rw [he] at hrun'
        have g1 := self hx k1 he (.inl rfl) (k := .inLoop x :: k) hT s hsz
        cases o1 with
        | norm =>
          exact g1.then fun ι' a' cs' w' hT' s' hz => by
            have := self hc hk hrun' (.inr ⟨x, rfl, rfl⟩) (k := k) hT' s' (by rw [hz]; exact hsz)
            rw [hz] at this; exact this
        | ret => cases hrun'; exact g1.out (by simp) (by simp)
        | exit id => cases hrun'; exact g1.out (fun _ _ => rfl) (by simp)
        | pan v => cases hrun'; exact g1.out (by simp) (by simp)
    · cases hc'
  | exit id =>
    rw [hcode (by simp)]
    have hc' : (forceN id fun id => some (NC.exit id)) = some nc := hc
    rw [forceN_eq] at hc'
    cases hc'
    have hrun' : Res.mk (.exit id) d = .mk o d' := hrun
    cases hrun'
    exact ⟨ι, a, cs, w, ⟨k, rfl, Steps.refl P _⟩, hT, Mv.refl s, rfl⟩
  | ret =>
    rw [hcode (by simp)]
    cases hc
    have hrun' : Res.mk .ret d = .mk o d' := hrun
    cases hrun'
    exact ⟨ι, a, cs, w, ⟨k, Steps.refl P _⟩, hT, Mv.refl s, rfl⟩
  | rangeFunc g ps x y =>
    rw [hcode (by simp)]
    have hc' : (match compOpd g, natsN ps.toList with
      | some f, some ps => (match compC P x with | some a => (match compC P y with | some b => some (NC.rangeFunc f ps a b) | none => none) | none => none)
      | _, _ => none) = some nc := hc
    split at hc'
    · rename_i nf nps hf hps
      split at hc'
      · rename_i nx hx
        split at hc'
        · rename_i ny hy
          cases hc'
          obtain ⟨k1, k2, k3⟩ := code_range hk
          have hnps := natsN_eq hps
          obtain ⟨t, dfs, ctx, h⟩ := d
          have hrun' : (match ρ t nf with
            | some (.fn f cap) => (match (generalizing := false) rnd with
              | none => h.new (.defd true) fun m h => rangeGo P S (ev P S n) f cap nps nx ny t (.mark m :: dfs) ctx h
              | some l => (match h.get l with
                | some (.loop ..) => rangeGo P S (ev P S n) f cap nps nx ny t dfs ctx h
                | _ => .fail))
            | _ => .fail) = Res.mk o d' := hrun
          cases hv : ρ t nf with
          | none => rw [hv] at hrun'; cases hrun'
          | some v =>
            rw [hv] at hrun'
            cases v with
            | fn f cap =>
              have hq := OE_of hT g nf hf _ hv
              obtain ⟨cap', hcap, hg⟩ : ∃ cap', VRL ι cap cap' ∧ a.eval g = .func (.func f) #[] cap'.toArray := by
                generalize a.eval g = z at hq
                cases hq with
                | fn _ _ cap' h => exact ⟨cap', h, rfl⟩
              cases rnd with
              | none =>
                have hro : b.roundOf = none := s.rn
                have hrun2 : (h.new (.defd true) fun m h => rangeGo P S (ev P S n) f cap nps nx ny t (.mark m :: dfs) ctx h) = Res.mk o d' := hrun'
                rw [NH.new_eq] at hrun2
                obtain ⟨ι1, i1, i2, i3, i4⟩ := s.rel.alloc s.base (.defd true) (.deferred (some [])) ⟨w.heap.size, 0, 0⟩ rfl (fun ι' _ => alloc_new w _)
                have henter := run_enterLoop_outer (P := P) (w := w) b.fn a.tmps ps x y
                have hs1 : Sd P ι1 B none (.mark h.next :: dfs) ctx (h.add (.defd true)) b ([{ target := .collected w.heap.size, args := #[] }] ++ a.defers) cs (w.alloc (.deferred (some []))) :=
                  ⟨⟨⟨_, i1, rfl⟩, s.df.mono i2⟩, s.cx.mono i2, i3, Nat.le_trans s.base i4.size, s.rn⟩
                have g := rangeGo_sound (k := k) hC hfn hx hy k2 k3 hnps k1 hrun2 (w0 := w) (mark := [{ target := .collected w.heap.size, args := #[] }]) (r := w.heap.size) (hT.mono i2) hs1 hsz (hcap.mono i2) hg (by rw [hro, henter]; simp)
                obtain ⟨ι2, a2, cs2, w2, q1, q2, q3, q4⟩ := g
                exact ⟨ι2, a2, cs2, w2, q1, q2, ⟨q3.sd, i4.trans q3.gr, q3.ca⟩, q4⟩
              | some l0 =>
                obtain ⟨p0, hp0, hro⟩ := s.rn
                have hrun2 : (match h.get l0 with
                  | some (.loop ..) => rangeGo P S (ev P S n) f cap nps nx ny t dfs ctx h
                  | _ => .fail) = Res.mk o d' := hrun'
                obtain ⟨ob, ho1, ho2⟩ := s.rel.obj _ _ hp0
                rw [ho1] at hrun2
                cases ob with
                | loop st pd tm ps2 a2 b2 =>
                  obtain ⟨L3, l1, _⟩ := ho2
                  have henter : (Instr.enterLoop b.fn a.tmps ps x y (some p0.b)).run P w = .ok (w.heap.size, []) (w.alloc (.loop { state := .ready, pending := none, fn := b.fn, tmps := a.tmps, params := ps, assign := x, body := y, defers := L3.defers })) := by
                    unfold Instr.enterLoop
                    simp only [Sem.run_bind, run_getLoop l1, run_newObj_alloc, Result.andThen, Sem.run_pure]
                  exact rangeGo_sound (k := k) hC hfn hx hy k2 k3 hnps k1 hrun2 (w0 := w) (mark := []) (r := L3.defers) hT s hsz hcap hg (by rw [hro, henter])
                | _ => cases hrun2
            | _ => cases hrun'
        · cases hc'
      · cases hc'
    · cases hc'
  | _ => cases hc
end
end Nm

namespace Nm
open Go

/-! # calls -/
/-- the mode of a frame that is on its way out -/
def MdR (ι : Inj) : Option NV → FrameMode → Prop
  | none, m => m = .returning
  | some v, m => ∃ v', m = .panicking [{ v := v', recovered := false }] ∧ VR ι v v'
theorem MdR.mono {ι ι' : Inj} (hι : ι.le ι') {p : Option NV} {m : FrameMode} (h : MdR ι p m) : MdR ι' p m := by
  cases p with
  | none => exact h
  | some v => obtain ⟨v', h1, h2⟩ := h; exact ⟨v', h1, h2.mono hι⟩
theorem MdR.ne_run {ι : Inj} {p : Option NV} {m : FrameMode} (h : MdR ι p m) : m ≠ .run := by
  cases p with
  | none => rw [show m = .returning from h]; simp
  | some v => obtain ⟨v', h1, h2⟩ := h; rw [h1]; simp
theorem MdR.settle {ι : Inj} {p : Option NV} {m : FrameMode} (h : MdR ι p m) : Go.settle m = m := by
  cases p with
  | none => rw [show m = .returning from h]; rfl
  | some v => obtain ⟨v', h1, h2⟩ := h; rw [h1]; rfl
theorem MdR.ctx {ι : Inj} {p : Option NV} {c : Frame} {cs : List Frame} (h : MdR ι p c.mode) : CtxR ι .deferred (c :: cs) p := by
  cases p with
  | none =>
    intro b hb
    have h' : c.mode = .returning := h
    unfold tryRecover
    rw [hb]
    simp only [h']
  | some v =>
    obtain ⟨v', h1, h2⟩ := h
    exact ⟨rfl, c, cs, v', [], rfl, h1, h2⟩

section
variable {P : Program} {S : Nat → List NV → Option NV} {B : Nat}

def resF (tmps : Array Value) : ResultVar → Sem Value
  | .tmp t => pure (tmps.getD t undef)
  | .cell a t => do loadVar t (← asAddr (tmps.getD a undef))
theorem results_eq (fn : Func) (tmps : Array Value) : results fn tmps = (do let vs ← fn.results.mapM (resF tmps); pure (if h : vs.size = 1 then vs[0] else .tuple vs)) := by
  unfold results
  congr 1

/-- what one result answers -/
noncomputable def readOne (h : NH) (t : Tm) : NRes → NR
  | .tmp k => (match NT.get k t with | some v => NR.val v | none => .fail)
  | .cell1 k => opLoad1 (.tmp k) t h
  | .cellN k n => opLoadN n (.tmp k) t h
theorem readRes_cons (h : NH) (t : Tm) (r : NRes) (l : List NRes) (F : CR) (K : List NV → CR) :
    readRes h t (r :: l) F K = (match readOne h t r with | .val v => readRes h t l F fun l => K (v :: l) | _ => F) := by
  cases r <;> rfl

theorem loadAt_run {w : World} {T : TypeId} {v : Value} {u : Value} (h : vRes ((Instr.loadAt T v).run P w) = .ok (.value u) w) : (do loadVar T (← asAddr v) : Sem Value).run P w = .ok u w := by
  cases v with
  | pointer a =>
    cases a with
    | none => simp [vRes, Instr.loadAt, Instr.sureAddr, stuck, Sem.run_bind, Sem.run, Result.andThen] at h
    | some a =>
      simp only [vRes, Instr.loadAt, Instr.sureAddr, asAddr, Sem.run_bind, Sem.run_pure, Result.andThen] at h ⊢
      cases hr : Sem.run P (loadVar T a) w with
      | ok x w1 => rw [hr] at h; cases h; rfl
      | halt x w1 => rw [hr] at h; cases h
  | _ => simp [vRes, Instr.loadAt, Instr.sureAddr, stuck, Sem.run_bind, Sem.run, Result.andThen] at h

theorem res_sound {ι : Inj} {h : NH} {w : World} {t : Tm} {tmps : Array Value} (hT : TR ι t tmps) (hR : Rel P ι B h w) {r0 : CR} (hr0 : r0 ≠ .fail) : ∀ (l : List ResultVar) (nl : List NRes) (K : List NV → CR), compRes P l = some nl → readRes h t nl .fail K = r0 →
    ∃ vs vs', K vs = r0 ∧ VRL ι vs vs' ∧ (l.mapM (resF tmps)).run P w = .ok vs' w := by
  have ov : ∀ k : Nat, OV ι t (.tmp (D4.of k)) (tmps.getD k undef) := by
    intro k v hv
    obtain ⟨v', h1, h2⟩ := hT k v hv
    rw [getD_of h1]; exact h2
  intro l
  induction l with
  | nil =>
    intro nl K hc hk
    cases hc
    exact ⟨[], [], hk, .nil, by simp⟩
  | cons r l ih =>
    intro nl K hc hk
    have step : ∀ {nr : NRes} {nl' : List NRes}, compRes P l = some nl' → nl = nr :: nl' → (∀ v, readOne h t nr = .val v → ∃ v', (resF tmps r).run P w = .ok v' w ∧ VR ι v v') →
        ∃ vs vs', K vs = r0 ∧ VRL ι vs vs' ∧ ((r :: l).mapM (resF tmps)).run P w = .ok vs' w := by
      intro nr nl' h1 h2 h3
      subst h2
      rw [readRes_cons] at hk
      cases hv : readOne h t nr with
      | val v =>
        rw [hv] at hk
        obtain ⟨v', q1, q2⟩ := h3 v hv
        obtain ⟨vs, vs', p1, p2, p3⟩ := ih nl' _ h1 hk
        refine ⟨v :: vs, v' :: vs', p1, .cons _ _ _ _ q2 p2, ?_⟩
        rw [List.mapM_cons]
        simp only [Sem.run_bind, q1, p3, Result.andThen, Sem.run_pure]
      | _ => rw [hv] at hk; exact absurd hk.symm hr0
    cases r with
    | tmp k =>
      have hc' : (match compRes P l with | some l => D4.ofNat k fun t => some (NRes.tmp t :: l) | none => none) = some nl := by
        have e : compRes P (.tmp k :: l) = (match ResultVar.tmp k, compRes P l with
          | .tmp t, some l => D4.ofNat t fun t => some (.tmp t :: l)
          | .cell t ty, some l => (match aggT P ty with
            | some none => D4.ofNat t fun t => some (.cell1 t :: l)
            | some (some n) => D4.ofNat t fun t => some (.cellN t n :: l)
            | none => none)
          | _, none => none) := rfl
        rw [e] at hc
        cases hl : compRes P l with
        | none => rw [hl] at hc; exact hc
        | some l1 => rw [hl] at hc; exact hc
      cases hl : compRes P l with
      | none => rw [hl] at hc'; cases hc'
      | some l1 =>
        rw [hl] at hc'
        have hc2 : (D4.ofNat k fun t => some (NRes.tmp t :: l1)) = some nl := hc'
        rw [D4.ofNat_eq] at hc2
        refine step hl (Option.some.inj hc2).symm fun v hv => ?_
        have hv' : (match NT.get (D4.of k) t with | some v => NR.val v | none => .fail) = NR.val v := hv
        cases hg : NT.get (D4.of k) t with
        | none => rw [hg] at hv'; cases hv'
        | some u =>
          rw [hg] at hv'; cases hv'
          exact ⟨_, rfl, ov k _ hg⟩
    | cell k T =>
      have e : compRes P (.cell k T :: l) = (match ResultVar.cell k T, compRes P l with
          | .tmp t, some l => D4.ofNat t fun t => some (.tmp t :: l)
          | .cell t ty, some l => (match aggT P ty with
            | some none => D4.ofNat t fun t => some (.cell1 t :: l)
            | some (some n) => D4.ofNat t fun t => some (.cellN t n :: l)
            | none => none)
          | _, none => none) := rfl
      rw [e] at hc
      cases hl : compRes P l with
      | none => rw [hl] at hc; cases hc
      | some l1 =>
        rw [hl] at hc
        dsimp only at hc
        cases ha : aggT P T with
        | none => rw [ha] at hc; cases hc
        | some q =>
          rw [ha] at hc
          cases q with
          | none =>
            have hc2 : (D4.ofNat k fun t => some (NRes.cell1 t :: l1)) = some nl := hc
            rw [D4.ofNat_eq] at hc2
            refine step hl (Option.some.inj hc2).symm fun v hv => ?_
            have := sound_load1 (B := B) (h := h) (w := w) ha (ov k) hR
            rw [show opLoad1 (.tmp (D4.of k)) t h = .val v from hv] at this
            obtain ⟨v', h1, h2⟩ := this
            exact ⟨v', loadAt_run h1, h2⟩
          | some m =>
            have hc2 : (D4.ofNat k fun t => some (NRes.cellN t m :: l1)) = some nl := hc
            rw [D4.ofNat_eq] at hc2
            refine step hl (Option.some.inj hc2).symm fun v hv => ?_
            have := sound_loadN (B := B) (h := h) (w := w) ha (ov k) hR
            rw [show opLoadN m (.tmp (D4.of k)) t h = .val v from hv] at this
            obtain ⟨v', h1, h2⟩ := this
            exact ⟨v', loadAt_run h1, h2⟩

theorem results_sound {ι : Inj} {h : NH} {w : World} {t : Tm} {tmps : Array Value} (hT : TR ι t tmps) (hR : Rel P ι B h w) {fn : Func} {nl : List NRes} (hc : compRes P fn.results.toList = some nl) {ctx : Option NV} {r0 : CR} (hr0 : r0 ≠ .fail)
    (h0 : readRes h t nl .fail (fun l => .val (resV l) ctx h) = r0) : ∃ v v', r0 = .val v ctx h ∧ VR ι v v' ∧ (results fn tmps).run P w = .ok v' w := by
  obtain ⟨vs, vs', h1, h2, h3⟩ := res_sound hT hR hr0 _ _ _ hc h0
  refine ⟨resV vs, if h : vs'.toArray.size = 1 then vs'.toArray[0] else .tuple vs'.toArray, h1.symm, ?_, ?_⟩
  · cases h2 with
    | nil => exact .tup [] [] .nil
    | cons v v' l l' hv hl =>
      cases hl with
      | nil => exact hv
      | cons u u' l l' hu hl =>
        have : ¬ (v' :: u' :: l').toArray.size = 1 := by simp
        rw [dif_neg this]
        exact .tup _ _ (.cons _ _ _ _ hv (.cons _ _ _ _ hu hl))
  · rw [results_eq, Array.mapM_eq_mapM_toList]
    simp only [Sem.run_bind, map_eq_pure_bind, h3, Result.andThen, Sem.run_pure]
end
end Nm

namespace Nm
open Go

/-! # frames -/
section
variable {P : Program} {S : Nat → List NV → Option NV} {B : Nat}

theorem compF_inv {f : Nat} {nf : NFun} (h : compF P f = some (.code nf)) : ∃ fn c, P.funcs[f]? = some fn ∧ fn.body = some c ∧ fn.name ≠ "runtime.NumGoroutine" ∧ compC P c = some nf.body ∧ compRes P fn.results.toList = some nf.results := by
  unfold compF at h
  split at h
  · rename_i fn hfn
    cases hn : (fn.name == "runtime.NumGoroutine") with
    | true => rw [hn] at h; cases h
    | false =>
      rw [hn] at h
      simp only [cond_false] at h
      split at h
      · rename_i c hb
        split at h
        · rename_i nb nr h1 h2
          rw [forceN_eq] at h
          cases h
          exact ⟨fn, c, hfn, hb, by simpa using hn, h1, h2⟩
        · cases h
      · split at h <;> cases h
  · cases h
theorem run_enter {f : Nat} {fn : Func} {c : Code} (hf : P.funcs[f]? = some fn) (hb : fn.body = some c) (hn : fn.name ≠ "runtime.NumGoroutine") (args : Array Value) (w : World) : (callFunc f args).run P w = .ok (.enter f args) w := by
  simp [callFunc, hf, hb, hn]

/-- arguments laid into temporaries -/
noncomputable def argTab : List NV → Nat → Tm → Tm
  | [], _, t => t
  | v :: vs, k, t => argTab vs (k + 1) (NT.put (D4.of k) v t)
theorem argsT_eq {R : Type} (vs : List NV) (K : Tm → R) : argsT vs K = K (argTab vs 0 .leaf) := by
  have go : ∀ (vs : List NV) (k : Nat) (t : Tm), (List.rec (motive := fun _ => D4 → Tm → R) (fun _ t => K t) (fun v _ ih k t => NT.set k v t fun t => k.succ fun k => ih k t) vs (D4.of k) t : R) = K (argTab vs k t) := by
    intro vs
    induction vs with
    | nil => intro k t; rfl
    | cons v vs ih =>
      intro k t
      have e : (List.rec (motive := fun _ => D4 → Tm → R) (fun _ t => K t) (fun v _ ih k t => NT.set k v t fun t => k.succ fun k => ih k t) (v :: vs) (D4.of k) t : R) =
        NT.set (D4.of k) v t fun t => (D4.of k).succ fun k => (List.rec (motive := fun _ => D4 → Tm → R) (fun _ t => K t) (fun v _ ih k t => NT.set k v t fun t => k.succ fun k => ih k t) vs k t : R) := rfl
      rw [e, NT.set_eq, D4.succ_eq]
      exact ih (k + 1) _
  exact go vs 0 .leaf
theorem argTab_get : ∀ (vs : List NV) (k : Nat) (t : Tm) (j : Nat) (v : NV), NT.get (D4.of j) (argTab vs k t) = some v → (∃ i, j = k + i ∧ vs[i]? = some v) ∨ (NT.get (D4.of j) t = some v ∧ (j < k ∨ k + vs.length ≤ j)) := by
  intro vs
  induction vs with
  | nil => intro k t j v h; exact .inr ⟨h, by simp; omega⟩
  | cons u vs ih =>
    intro k t j v h
    rcases ih (k + 1) _ j v h with ⟨i, h1, h2⟩ | ⟨h1, h2⟩
    · exact .inl ⟨i + 1, by omega, by simpa using h2⟩
    · by_cases e : j = k
      · subst e
        rw [NT.get_put_same] at h1
        exact .inl ⟨0, rfl, by simpa using h1⟩
      · rw [NT.get_put_ne (fun x => e (D4.of_inj x))] at h1
        exact .inr ⟨h1, by simp; omega⟩
theorem args_TR {ι : Inj} {args : List NV} {args' : List Value} (h : VRL ι args args') (n : Nat) : TR ι (argTab args 0 .leaf) (args'.toArray ++ Array.replicate n undef) := by
  intro j v hv
  rcases argTab_get args 0 .leaf j v hv with ⟨i, h1, h2⟩ | ⟨h1, _⟩
  · obtain ⟨v', h3, h4⟩ := h.get h2
    refine ⟨v', ?_, h4⟩
    have : j = i := by omega
    subst this
    have hlt := (List.getElem?_eq_some_iff.1 h3).1
    rw [Array.getElem?_append_left (by simpa using hlt)]
    simpa using h3
  · rw [NT.get_leaf] at h1; cases h1

/-- what a frame comes to -/
def FrmR (P : Program) (B : Nat) (ι : Inj) (h : NH) (w : World) (fr0 : Frame) (kind : CallKind) (ctx : Option NV) (cs : List Frame) : CR → Prop
  | .fail => True
  | .val v ctx' h' => ∃ ι' v' w' cs' fr, VR ι' v v' ∧ Rel P ι' B h' w' ∧ B ≤ w'.heap.size ∧ Grow ι h w ι' h' w' ∧ CsAt cs ctx cs' ctx' ∧ Steps P (lone fr0 cs w) (lone fr cs' w') ∧ fr.kind = kind ∧ fr.fn = fr0.fn ∧ fr.going P w' (.returned v')
  | .pan v ctx' h' => ∃ ι' v' w' cs' fr, VR ι' v v' ∧ Rel P ι' B h' w' ∧ B ≤ w'.heap.size ∧ Grow ι h w ι' h' w' ∧ CsAt cs ctx cs' ctx' ∧ Steps P (lone fr0 cs w) (lone fr cs' w') ∧ fr.kind = kind ∧ fr.fn = fr0.fn ∧ fr.going P w' (.panicked [{ v := v', recovered := false }])

def DefOK (P : Program) (callF : Nat → List NV → Option NV → NH → CR) : Prop :=
  ∀ (f : Nat) (args : List NV) (p : Option NV) (h : NH), callF f args p h ≠ .fail → (∃ nf, compF P f = some (.code nf)) ∧
    ∀ (B : Nat) (ι : Inj) (w : World) (args' : List Value) (kind : CallKind) (cs : List Frame), Rel P ι B h w → B ≤ w.heap.size → VRL ι args args' → CtxR ι kind cs p →
      FrmR P B ι h w (Frame.enter P f args'.toArray kind) kind p cs (callF f args p h)

theorem unwind_cons (callF : Nat → List NV → Option NV → NH → CR) (K : Option NV → NH → CR) (c : Dfr) (l : List Dfr) (p : Option NV) (h : NH) :
    unwind callF K (c :: l) p h = match c with
      | .call f cap => (match callF f cap p h with
        | .val _ p h => unwind callF K l p h
        | _ => .fail)
      | .mark id => match h.get id with
        | some (.defd true) => unwind callF K l p (h.put id (.defd false))
        | _ => .fail := by
  have e : unwind callF K (c :: l) p h = match c with
      | .call f cap => (match callF f cap p h with
        | .val _ p h => unwind callF K l p h
        | _ => .fail)
      | .mark id => match h.get id with
        | some (.defd true) => h.set id (.defd false) fun h => unwind callF K l p h
        | _ => .fail := rfl
  rw [e]
  cases c with
  | call f cap => rfl
  | mark id =>
    dsimp only
    split
    · exact NH.set_eq _ _ _ _
    · rfl

theorem unwind_sound {callF : Nat → List NV → Option NV → NH → CR} (hF : DefOK P callF) {K : Option NV → NH → CR} {r : CR} (hr : r ≠ .fail) : ∀ (l : List Dfr) (p : Option NV) (h : NH), unwind callF K l p h = r →
    ∀ (ι : Inj) (w : World) (fr : Frame) (cs : List Frame), DR ι l fr.defers → Rel P ι B h w → B ≤ w.heap.size → MdR ι p fr.mode →
    ∃ p' h' ι' w' fr', K p' h' = r ∧ Rel P ι' B h' w' ∧ B ≤ w'.heap.size ∧ Grow ι h w ι' h' w' ∧ MdR ι' p' fr'.mode ∧ fr'.defers = [] ∧ fr'.tmps = fr.tmps ∧ fr'.fn = fr.fn ∧ fr'.kind = fr.kind ∧ Steps P (lone fr cs w) (lone fr' cs w') := by
  intro l
  induction l with
  | nil =>
    intro p h hu ι w fr cs hd hR hB hm
    have hde : fr.defers = [] := by
      cases hds : fr.defers with
      | nil => rfl
      | cons d ds => rw [hds] at hd; exact hd.elim
    exact ⟨p, h, ι, w, fr, hu, hR, hB, .refl _ _ _, hm, hde, rfl, rfl, rfl, Steps.refl P _⟩
  | cons c l ih =>
    intro p h hu ι w fr cs hd hR hB hm
    rw [unwind_cons] at hu
    cases hds : fr.defers with
    | nil => rw [hds] at hd; cases c <;> exact hd.elim
    | cons d ds =>
      rw [hds] at hd
      cases c with
      | mark id =>
        obtain ⟨⟨pl, hp, hde⟩, hd'⟩ := hd
        have hu' : (match h.get id with
          | some (.defd true) => unwind callF K l p (h.put id (.defd false))
          | _ => .fail) = r := hu
        obtain ⟨ob, ho1, ho2⟩ := hR.obj _ _ hp
        rw [ho1] at hu'
        cases ob with
        | defd q =>
          cases q with
          | false => exact absurd hu'.symm hr
          | true =>
            have hob : w.heap[pl.b]? = some (.deferred (some [])) := ho2
            have htake := run_takeDeferred (P := P) hob
            have hst := step_collected (cs := cs) hm.ne_run hds (by rw [hde]) htake
            have hlt := hR.lt _ _ hp
            obtain ⟨t1, t2⟩ := hR.turn (w' := w.putObj pl.b (.deferred none)) hp (by rw [ho1]; simp) (.defd false) (World.putObj_heap_same hlt) (by simp) rfl rfl rfl (fun q hq => World.putObj_heap_other hq)
            obtain ⟨p', h', ι', w', fr', q1, q2, q3, q4, q5, q6, q7, q8, q9, q10⟩ := ih p _ hu' ι _ { fr with defers := [] ++ ds } cs hd' t1 (by simpa using hB) hm
            exact ⟨p', h', ι', w', fr', q1, q2, q3, t2.trans q4, q5, q6, q7, q8, q9, .head hst q10⟩
        | _ => exact absurd hu'.symm hr
      | call f cap =>
        obtain ⟨⟨cap', hcap, hde⟩, hd'⟩ := hd
        have hu' : (match callF f cap p h with
          | .val _ p h => unwind callF K l p h
          | _ => .fail) = r := hu
        cases hcf : callF f cap p h with
        | fail => rw [hcf] at hu'; exact absurd hu'.symm hr
        | pan v x h1 => rw [hcf] at hu'; exact absurd hu'.symm hr
        | val v p1 h1 =>
          rw [hcf] at hu'
          obtain ⟨⟨nf, hnf⟩, hFr⟩ := hF f cap p h (by rw [hcf]; simp)
          obtain ⟨fnn, code, e1, e2, e3, _⟩ := compF_inv hnf
          have hinv : (invoke d.target d.args).run P w = .ok (.enter f cap'.toArray) w := by
            rw [hde]
            have := run_enter (P := P) e1 e2 e3 (#[] ++ cap'.toArray) w
            simp only [Array.empty_append] at this
            simp only [invoke, Array.empty_append]
            exact this
          have hst := step_defer (cs := cs) hm.ne_run hds (by rw [hde]) hinv
          have hfr := hFr B ι w cap' .deferred ({ fr with defers := ds } :: cs) hR hB hcap (MdR.ctx (c := { fr with defers := ds }) hm)
          rw [hcf] at hfr
          obtain ⟨ι1, v', w1, cs1, frx, f1, f2, f3, f4, f5, f6, f7, _, f8⟩ := hfr
          -- back in the frame
          have hback : ∃ m', MdR ι1 p1 m' ∧ Steps P (lone fr cs w) (lone { fr with defers := ds, mode := m' } cs w1) := by
            rcases f5 with ⟨rfl, rfl⟩ | ⟨rfl, _, c0, rest, v0, older, g1, g2, rfl⟩
            · refine ⟨fr.mode, hm.mono f4.le, .head hst (Steps.trans f6 (.one ?_))⟩
              have := step_going_returned (c := { fr with defers := ds }) (cs := cs) f7 f8
              rw [show settle ({ fr with defers := ds } : Frame).mode = fr.mode from hm.settle] at this
              exact this
            · injection g1 with g3 g4
              subst g3 g4
              refine ⟨.returning, rfl, .head hst (Steps.trans f6 (.one ?_))⟩
              have := step_going_returned (c := { ({ fr with defers := ds } : Frame) with mode := .panicking ({ v := v0, recovered := true } :: older) }) (cs := cs) f7 f8
              have hol : older = [] := by
                cases p with
                | none =>
                  have : fr.mode = .returning := hm
                  rw [show ({ fr with defers := ds } : Frame).mode = fr.mode from rfl, this] at g2
                  cases g2
                | some q =>
                  obtain ⟨q', hq1, _⟩ := hm
                  rw [show ({ fr with defers := ds } : Frame).mode = fr.mode from rfl, hq1] at g2
                  cases g2
                  rfl
              rw [hol] at this ⊢
              exact this
          obtain ⟨m', hm', hsteps⟩ := hback
          obtain ⟨p', h', ι', w', fr', q1, q2, q3, q4, q5, q6, q7, q8, q9, q10⟩ := ih p1 h1 hu' ι1 w1 { fr with defers := ds, mode := m' } cs (hd'.mono f4.le) f2 f3 hm'
          exact ⟨p', h', ι', w', fr', q1, q2, q3, f4.trans q4, q5, q6, q7, q8, q9, hsteps.trans q10⟩

/-- what the checker has said of each function's code -/
def CheckedP (P : Program) : Prop := ∀ (f : Nat) (fn : Func) (c : Code), P.funcs[f]? = some fn → fn.body = some c → CheckCode.code P fn [] [] c = .ok ()
theorem checkedP (h : P.check = .ok ()) : CheckedP P := by
  intro f fn c hf hb
  unfold Program.check at h
  obtain ⟨_, h1, _⟩ := ebind_ok h
  have h2 := forM_ok h1 f (by simp; exact (Array.getElem?_eq_some_iff.1 hf).1)
  unfold CheckCode.funcAt at h2
  rw [hf] at h2
  have h3 := mapError_ok h2
  unfold CheckCode.func at h3
  obtain ⟨_, _, h3⟩ := ebind_ok h3
  obtain ⟨_, _, h3⟩ := ebind_ok h3
  obtain ⟨_, _, h3⟩ := ebind_ok h3
  rw [hb] at h3
  simp only at h3
  obtain ⟨_, _, h3⟩ := ebind_ok h3
  obtain ⟨_, h4, _⟩ := ebind_ok h3
  exact h4

theorem codeF_succ (self : Option D4 → NC → Dyn → Res) (depth f : Nat) (args : List NV) (ctx : Option NV) (h : NH) :
    codeF P self (depth + 1) f args ctx h = match compF P f with
      | some (.code nf) => (match self none nf.body ⟨argTab args 0 .leaf, [], ctx, h⟩ with
        | .mk o d => (match o with
          | .norm | .ret => unwind (codeF P self depth) (finish nf.results d) d.dfs none d.h
          | .pan v => unwind (codeF P self depth) (finish nf.results d) d.dfs (some v) d.h
          | .exit _ => .fail)
        | .fail => .fail)
      | _ => .fail := by
  have e : codeF P self (depth + 1) f args ctx h = match compF P f with
      | some (.code nf) => argsT args fun t => (match self none nf.body ⟨t, [], ctx, h⟩ with
        | .mk o d => (match o with
          | .norm | .ret => unwind (codeF P self depth) (finish nf.results d) d.dfs none d.h
          | .pan v => unwind (codeF P self depth) (finish nf.results d) d.dfs (some v) d.h
          | .exit _ => .fail)
        | .fail => .fail)
      | _ => .fail := rfl
  rw [e]
  split
  · exact argsT_eq _ _
  · rfl

theorem codeF_sound (hK : CheckedP P) {n : Nat} (hO : CodeOK P S n) : ∀ depth, DefOK P (codeF P (ev P S n) depth) := by
  intro depth
  induction depth with
  | zero => intro f args p h hne; exact absurd rfl hne
  | succ depth ih =>
    intro f args p h hne
    rw [codeF_succ] at hne ⊢
    cases hcf : compF P f with
    | none => rw [hcf] at hne; exact absurd rfl hne
    | some x =>
      cases x with
      | ext e => rw [hcf] at hne; exact absurd rfl hne
      | code nf =>
        refine ⟨⟨nf, rfl⟩, fun B ι w args' kind cs hR hB hargs hctx => ?_⟩
        rw [hcf] at hne
        dsimp only at hne ⊢
        obtain ⟨fn, c, hf, hb, hname, hcc, hres⟩ := compF_inv hcf
        let b : Frame := { (default : Frame) with fn := f, kind := kind }
        let a0 : Act := { tmps := args'.toArray ++ Array.replicate (fn.ntmps - args'.toArray.size) undef, defers := [] }
        have henter : Frame.enter P f args'.toArray kind = b.atR a0 [.code c] := by
          simp [Frame.enter, Frame.atR, hf, hb, b, a0]
          rfl
        cases hev : ev P S n none nf.body ⟨argTab args 0 .leaf, [], p, h⟩ with
        | fail => rw [hev] at hne; exact absurd rfl hne
        | mk o d =>
          rw [hev] at hne
          have hs : Sd P ι B none [] p h b a0.defers cs w := ⟨trivial, hctx, hR, hB, rfl⟩
          have hgo := hO c nf.body fn [] [] hcc (hK f fn c hf hb) none ⟨argTab args 0 .leaf, [], p, h⟩ o d hev (.code c) (.inl rfl) B b [] ι a0 cs w hf (args_TR hargs _) hs (by simp [a0]; omega)
          rw [← henter] at hgo
          obtain ⟨ι1, a1, cs1, w1, g1, g2, g3, g4⟩ := hgo
          -- on the way out
          have out : ∀ (q : Option NV) (fr1 : Frame), (unwind (codeF P (ev P S n) depth) (finish nf.results d) d.dfs q d.h) ≠ .fail → MdR ι1 q fr1.mode → fr1.defers = a1.defers → fr1.tmps = a1.tmps → fr1.kind = kind → fr1.fn = f →
              Steps P (lone (Frame.enter P f args'.toArray kind) cs w) (lone fr1 cs1 w1) → FrmR P B ι h w (Frame.enter P f args'.toArray kind) kind p cs (unwind (codeF P (ev P S n) depth) (finish nf.results d) d.dfs q d.h) := by
            intro q fr1 hq hm hdf htm hkd hfn hst
            have sd := g3.sd
            obtain ⟨p', h', ι', w', fr', q1, q2, q3, q4, q5, q6, q7, q8, q9, q10⟩ := unwind_sound ih hq d.dfs q d.h rfl ι1 w1 fr1 cs1 (by rw [hdf]; exact sd.df) sd.rel sd.base hm
            have hTR : TR ι' d.t fr'.tmps := by rw [q7, htm]; exact g2.mono q4.le
            have hff : P.funcs[fr'.fn]? = some fn := by rw [q8, hfn]; exact hf
            cases p' with
            | none =>
              have q1' : readRes h' d.t nf.results .fail (fun l => .val (resV l) d.ctx h') = unwind (codeF P (ev P S n) depth) (finish nf.results d) d.dfs q d.h := q1
              obtain ⟨v, v', r1, r2, r3⟩ := results_sound hTR q2 hres hq q1'
              rw [r1]
              exact ⟨ι', v', w', cs1, fr', r2, q2, q3, g3.gr.trans q4, g3.ca, hst.trans q10, by rw [q9, hkd], by rw [q8, hfn]; rfl, q5, q6, fn, hff, r3⟩
            | some v =>
              have q1' : CR.pan v d.ctx h' = unwind (codeF P (ev P S n) depth) (finish nf.results d) d.dfs q d.h := q1
              rw [← q1']
              obtain ⟨v', m1, m2⟩ := q5
              exact ⟨ι', v', w', cs1, fr', m2, q2, q3, g3.gr.trans q4, g3.ca, hst.trans q10, by rw [q9, hkd], by rw [q8, hfn]; rfl, m1, q6, fn, hff⟩
          cases o with
          | norm =>
            have g1' : Steps P (lone (Frame.enter P f args'.toArray kind) cs w) (lone (b.atR a1 []) cs1 w1) := g1
            exact out none { b.atR a1 [] with mode := .returning } hne rfl rfl rfl rfl rfl (g1'.trans (.one (stepR_end rfl)))
          | ret =>
            obtain ⟨k0, g1'⟩ := g1
            exact out none { b.atR a1 (.code .ret :: k0) with mode := .returning } hne rfl rfl rfl rfl rfl (g1'.trans (.one (stepR_ret rfl)))
          | exit id => exact absurd rfl hne
          | pan v =>
            obtain ⟨td, v', m1, g1'⟩ := g1
            exact out (some v) _ hne ⟨v', rfl, m1⟩ rfl rfl rfl rfl g1'
end
end Nm

namespace Nm
open Go

/-! # calls and rounds -/
theorem x1 : Extern.allNextRows.lookup "math/bits.Add64" = none := by kernel_rfl
theorem x2 : Extern.allNextRows.lookup "" = none := by kernel_rfl
theorem x3 : Extern.allGenericRows.lookup "math/bits.Add64" = none := by kernel_rfl
theorem x4 : Extern.allTypedRows.lookup "math/bits.Add64" = none := by kernel_rfl
theorem x5 : Extern.allRows.lookup "math/bits.Add64" = some add64Entry := by kernel_rfl
theorem y1 : Extern.allNextRows.lookup "internal/bytealg.IndexByteString" = none := by kernel_rfl
theorem y3 : Extern.allGenericRows.lookup "internal/bytealg.IndexByteString" = none := by kernel_rfl
theorem y4 : Extern.allTypedRows.lookup "internal/bytealg.IndexByteString" = none := by kernel_rfl
theorem y5 : Extern.allRows.lookup "internal/bytealg.IndexByteString" = some Extern.BytealgIndexByte.indexByte := by kernel_rfl

theorem idxL_eq (c : Nat) : ∀ (l : List Nat) (i : Nat), idxL c l i = (l.findIdx? (fun x => x == c)).map (· + i) := by
  intro l
  induction l with
  | nil => intro i; rfl
  | cons x l ih =>
    intro i
    have e : idxL c (x :: l) i = cond (Nat.beq x c) (some i) (forceN (Nat.succ i) (idxL c l)) := rfl
    rw [e, forceN_eq, ih, List.findIdx?_cons]
    cases h : Nat.beq x c with
    | true => have := Nat.eq_of_beq_eq_true h; simp [this]
    | false =>
      have := Nat.ne_of_beq_eq_false h
      simp only [cond_false]
      rw [if_neg (by simpa using this)]
      cases List.findIdx? (fun x => x == c) l with
      | none => rfl
      | some j => simp; omega

theorem range_find (p : Nat → Bool) : ∀ n, (List.range n).find? p = none ↔ ∀ i, i < n → p i = false := by
  intro n; simp

theorem firstIdx_eq (s : ByteArray) (c : Nat) (hc : c ≤ 255) : firstIdx s c.toUInt8 = match idxL c (s.data.toList.map UInt8.toNat) 0 with | some i => (i : Int) | none => -1 := by
  rw [idxL_eq]
  have hsz : s.data.toList.length = s.size := size_toList s
  have hml : (s.data.toList.map UInt8.toNat).length = s.size := by rw [List.length_map, hsz]
  have hat : ∀ i (h : i < s.size), (s[i]! == c.toUInt8) = (((s.data.toList.map UInt8.toNat)[i]'(by rw [hml]; exact h)) == c) := by
    intro i h
    have e : s[i]! = s.data.toList[i]'(by rw [hsz]; exact h) := by
      rw [getElem!_pos s i h]; simp [ByteArray.getElem_eq_getElem_data]
    rw [e, List.getElem_map]
    rw [Bool.eq_iff_iff]
    simp only [beq_iff_eq]
    constructor
    · intro h; rw [h]; simp; omega
    · intro h; rw [← h]; simp
  unfold firstIdx
  cases hf : (s.data.toList.map UInt8.toNat).findIdx? (fun x => x == c) with
  | none =>
    have h1 : (List.range s.size).find? (fun i => s[i]! == c.toUInt8) = none := by
      rw [range_find]
      intro i hi
      rw [hat i hi]
      rw [List.findIdx?_eq_none_iff] at hf
      exact hf _ (List.getElem_mem _)
    rw [h1]; rfl
  | some j =>
    rw [List.findIdx?_eq_some_iff_getElem] at hf
    obtain ⟨hj, h1, h2⟩ := hf
    have hj' : j < s.size := by rw [← hml]; exact hj
    have h3 : (List.range s.size).find? (fun i => s[i]! == c.toUInt8) = some j := by
      rw [List.find?_range_eq_some]
      refine ⟨?_, by simpa using hj', fun k hk => ?_⟩
      · rw [hat j hj']; exact h1
      · rw [hat k (by omega)]
        simpa using h2 k hk
    rw [h3]; simp

section
variable {P : Program} {S : Nat → List NV → Option NV} {B : Nat}

theorem ext_sound {ι : Inj} {fn : Func} {e : Ext} {f : Nat} (hf : P.funcs[f]? = some fn) (hb : fn.body = none) (he : extOf fn = some e) {args : List NV} {args' : List Value} (ha : VRL ι args args') {v : NV} (hv : extRun e args = some v) (w : World) :
    ∃ v', (callFunc f args'.toArray).run P w = .ok (.value v') w ∧ VR ι v v' := by
  unfold extOf at he
  obtain ⟨ho, he⟩ := condO_inv he
  have ho' : fn.origin = "" := by simpa using ho
  cases hn : (fn.name == "math/bits.Add64") with
  | true =>
    rw [hn] at he
    cases he
    have hname : fn.name = "math/bits.Add64" := by simpa using hn
    have hnx : Extern.findNext fn = none := by unfold Extern.findNext; rw [hname, ho']; simp only [x1, x2]; rfl
    have hfi : Extern.find fn = some add64Entry := by unfold Extern.find; rw [hname, ho']; simp only [x3, x4, x5]; rfl
    have hcall := run_callFunc_extern hf (by rw [hname]; decide) (by rw [hb]; rfl) hnx hfi args'.toArray w
    unfold extRun at hv
    split at hv
    · rename_i x y c hargs
      obtain ⟨hc1, hv⟩ := condO_inv hv
      rw [forceN_eq, forceN_eq] at hv
      cases hv
      cases ha with
      | cons _ _ _ _ h1 ha =>
        cases ha with
        | cons _ _ _ _ h2 ha =>
          cases ha with
          | cons _ _ _ _ h3 ha =>
            cases ha
            cases h1; cases h2; cases h3
            have hc := Nat.le_of_ble_eq_true hc1
            refine ⟨_, ?_, .tup [_, _] [_, _] (.cons _ _ _ _ (.int .u64 _) (.cons _ _ _ _ (.int .u64 _) .nil))⟩
            have := run_add64 (P := P) (Int.ofNat x) (Int.ofNat y) (Int.ofNat c) (Int.natCast_nonneg _) (Int.natCast_nonneg _) (Int.natCast_nonneg _) (by show (c : Int) ≤ 1; omega) w
            rw [hcall]
            show Result.andThen (Sem.run P (add64Entry #[.int .u64 (Int.ofNat x), .int .u64 (Int.ofNat y), .int .u64 (Int.ofNat c)]) w) _ = _
            rw [this]
            rfl
    · rename_i h; cases h
    · cases hv
  | false =>
    rw [hn] at he
    simp only [cond_false] at he
    obtain ⟨hn2, he⟩ := condO_inv he
    cases he
    have hname : fn.name = "internal/bytealg.IndexByteString" := by simpa using hn2
    have hnx : Extern.findNext fn = none := by unfold Extern.findNext; rw [hname, ho']; simp only [y1, x2]; rfl
    have hfi : Extern.find fn = some Extern.BytealgIndexByte.indexByte := by unfold Extern.find; rw [hname, ho']; simp only [y3, y4, y5]; rfl
    have hcall := run_callFunc_extern hf (by rw [hname]; decide) (by rw [hb]; rfl) hnx hfi args'.toArray w
    unfold extRun at hv
    split at hv
    · rename_i h; cases h
    · rename_i s c _
      obtain ⟨hc1, hv⟩ := condO_inv hv
      have hc := Nat.le_of_ble_eq_true hc1
      cases ha with
      | cons _ _ _ _ h1 ha =>
        cases ha with
        | cons _ _ _ _ h2 ha =>
          cases ha
          cases h2
          cases h1 with
          | str l s' hs =>
            subst hs
            have hrun := run_indexByte_string (P := P) s' (Int.ofNat c) w
            refine ⟨.int .i64 (firstIdx s' c.toUInt8), ?_, ?_⟩
            · rw [hcall]
              show Result.andThen (Sem.run P (Extern.BytealgIndexByte.indexByte #[.string s', .int .u8 (Int.ofNat c)]) w) _ = _
              rw [hrun]
              rfl
            · rw [firstIdx_eq s' c hc]
              cases hi : idxL c (s'.data.toList.map UInt8.toNat) 0 with
              | none => rw [hi] at hv; cases hv; exact .int .i64 _
              | some i => rw [hi] at hv; cases hv; exact .int .i64 _
    · cases hv

/-- answers that are taken from a table are the function's -/
def TabOK (P : Program) (S : Nat → List NV → Option NV) : Prop :=
  ∀ (ι : Inj) (B : Nat) (h : NH) (w : World) (f : Nat) (args : List NV) (args' : List Value) (v : NV), S f args = some v → Rel P ι B h w → B ≤ w.heap.size → VRL ι args args' →
    CallR P ι B h w ((callFunc f args'.toArray).run P w) (.val v none h)
theorem tab_none : TabOK P noS := fun _ _ _ _ _ _ _ _ h => by cases h

theorem compF_ext {f : Nat} {e : Ext} (h : compF P f = some (.ext e)) : ∃ fn, P.funcs[f]? = some fn ∧ fn.body = none ∧ extOf fn = some e := by
  unfold compF at h
  split at h
  · rename_i fn hfn
    cases hn : (fn.name == "runtime.NumGoroutine") with
    | true => rw [hn] at h; cases h
    | false =>
      rw [hn] at h
      simp only [cond_false] at h
      split at h
      · split at h
        · rw [forceN_eq] at h; cases h
        · cases h
      · rename_i hb
        split at h
        · rename_i e' he; cases h; exact ⟨fn, hfn, hb, he⟩
        · cases h
  · cases h

theorem going_leaving {fr : Frame} {w : World} {e : Ending} (hk : fr.kind = .normal) (h : fr.going P w e) : fr.leaving P w e := by
  cases e with
  | returned v => exact ⟨h.1, h.2.1, hk, h.2.2⟩
  | panicked c => exact h
  | outgrown => trivial

theorem call_sound (hK : CheckedP P) (hS : TabOK P S) {n : Nat} (hO : CodeOK P S n) (ι : Inj) (B : Nat) (h : NH) (w : World) (f : Nat) (args : List NV) (args' : List Value) (hR : Rel P ι B h w) (hB : B ≤ w.heap.size) (ha : VRL ι args args') :
    CallR P ι B h w ((callFunc f args'.toArray).run P w) (callG P S (ev P S n) f args h) := by
  unfold callG
  cases hs : S f args with
  | some v => exact hS ι B h w f args args' v hs hR hB ha
  | none =>
    dsimp only
    cases hcf : compF P f with
    | none => trivial
    | some x =>
      cases x with
      | ext e =>
        dsimp only
        cases hx : extRun e args with
        | none => trivial
        | some v =>
          intro c cs
          obtain ⟨fn, h1, h2, h3⟩ := compF_ext hcf
          obtain ⟨v', e1, e2⟩ := ext_sound h1 h2 h3 ha hx w
          exact ⟨ι, v', w, e2, hR, hB, .refl _ _ _, .inl e1⟩
      | code nf =>
        dsimp only
        have hD := codeF_sound hK hO 3 f args none h
        obtain ⟨fn, code, e1, e2, e3, _⟩ := compF_inv hcf
        have hent := run_enter (P := P) e1 e2 e3 args'.toArray w
        cases hr : codeF P (ev P S n) 3 f args none h with
        | fail => trivial
        | val v x h' =>
          intro c cs
          obtain ⟨_, hF⟩ := hD (by rw [hr]; simp)
          have hF := hF B ι w args' .normal (c :: cs) hR hB ha (fun b hb => by unfold tryRecover; rw [hb])
          rw [hr] at hF
          obtain ⟨ι', v', w', cs', fr, f1, f2, f3, f4, f5, f6, f7, _, f8⟩ := hF
          obtain ⟨rfl, _⟩ := f5.none
          exact ⟨ι', v', w', f1, f2, f3, f4, .inr ⟨w, .inl ⟨f, args'.toArray, hent, Steps.trans f6 (.one (step_leave_returned (going_leaving f7 f8)))⟩⟩⟩
        | pan v x h' =>
          intro c cs
          obtain ⟨_, hF⟩ := hD (by rw [hr]; simp)
          have hF := hF B ι w args' .normal (c :: cs) hR hB ha (fun b hb => by unfold tryRecover; rw [hb])
          rw [hr] at hF
          obtain ⟨ι', v', w', cs', fr, f1, f2, f3, f4, f5, f6, f7, _, f8⟩ := hF
          obtain ⟨rfl, _⟩ := f5.none
          exact ⟨ι', v', w', f1, f2, f3, f4, w, .inl ⟨f, args'.toArray, hent, Steps.trans f6 (.one (step_leave_panicked (going_leaving f7 f8)))⟩⟩

/-- arguments of yield laid into the loop's temporaries -/
noncomputable def putP : List D4 → List NV → Tm → Tm
  | p :: ps, v :: vs, t => putP ps vs (NT.put p v t)
  | _, _, t => t
theorem paramsT_inv {r : CR} (hr : r ≠ .fail) {K : Tm → CR} : ∀ {ps : List D4} {vs : List NV} {t : Tm}, paramsT .fail ps vs t K = r → vs.length = ps.length ∧ K (putP ps vs t) = r := by
  intro ps
  induction ps with
  | nil =>
    intro vs t h
    cases vs with
    | nil => exact ⟨rfl, h⟩
    | cons v vs => exact absurd (show CR.fail = r from h).symm hr
  | cons p ps ih =>
    intro vs t h
    cases vs with
    | nil => exact absurd (show CR.fail = r from h).symm hr
    | cons v vs =>
      have e : paramsT .fail (p :: ps) (v :: vs) t K = NT.set p v t fun t => paramsT .fail ps vs t K := rfl
      rw [e, NT.set_eq] at h
      obtain ⟨h1, h2⟩ := ih h
      exact ⟨by simp [h1], h2⟩
theorem putP_TR {ι : Inj} : ∀ {ps : List Nat} {vs : List NV} {vs' : List Value} {t : Tm} {a : Array Value}, VRL ι vs vs' → TR ι t a → (∀ q ∈ ps, q < a.size) →
    TR ι (putP (ps.map D4.of) vs t) ((ps.zip vs').foldl (fun tmps (t, a) => tmps.setIfInBounds t a) a) ∧ ((ps.zip vs').foldl (fun tmps (t, a) => tmps.setIfInBounds t a) a).size = a.size := by
  intro ps
  induction ps with
  | nil => intro vs vs' t a _ hT _; cases vs <;> exact ⟨hT, rfl⟩
  | cons p ps ih =>
    intro vs vs' t a hv hT hp
    cases hv with
    | nil => exact ⟨hT, rfl⟩
    | cons v v' vs vs' h1 h2 =>
      have hT' := hT.put (hp p (by simp)) h1
      obtain ⟨q1, q2⟩ := ih h2 hT' (fun q hq => by simp; exact hp q (by simp [hq]))
      exact ⟨q1, q2.trans (by simp)⟩

/-- what a round comes to, whoever calls -/
def RndR (P : Program) (B : Nat) (ι : Inj) (h : NH) (w : World) (fr0 : Frame) (c : Frame) (cs : List Frame) : CR → Prop
  | .fail => True
  | .val v _ h' => ∃ ι' v' w', VR ι' v v' ∧ Rel P ι' B h' w' ∧ B ≤ w'.heap.size ∧ Grow ι h w ι' h' w' ∧ Steps P (lone fr0 (c :: cs) w) (lone (c.finish v') cs w')
  | .pan v _ h' => ∃ ι' v' w', VR ι' v v' ∧ Rel P ι' B h' w' ∧ B ≤ w'.heap.size ∧ Grow ι h w ι' h' w' ∧ Steps P (lone fr0 (c :: cs) w) (lone (c.raise [{ v := v', recovered := false }]) cs w')

theorem round_sound {n : Nat} (hO : CodeOK P S n) (ι : Inj) (B : Nat) (h : NH) (w : World) (l : D4) (p : Pl) (args : List NV) (args' : List Value) (hR : Rel P ι B h w) (hB : B ≤ w.heap.size) (ha : VRL ι args args') (hp : ι l = some p) :
    CallR P ι B h w ((Instr.yield p.b args'.toArray).run P w) (round (ev P S n) l args h) := by
  by_cases hne : round (ev P S n) l args h = .fail
  · rw [hne]; trivial
  generalize hrr : round (ev P S n) l args h = r at hne
  have hrr' := hrr
  unfold round at hrr'
  obtain ⟨ob, ho1, ho2⟩ := hR.obj _ _ hp
  rw [ho1] at hrr'
  cases ob with
  | loop st pd tm ps na nb =>
    cases st with
    | succ st => exact absurd hrr'.symm hne
    | zero =>
      obtain ⟨L, l1, l2, l3, l4, l5, l6, l7, ⟨fn, bl, la, lb, l8, l9, l10, l11, _⟩, l12⟩ := ho2
      obtain ⟨hlen, hrr2⟩ := paramsT_inv hne hrr'
      have hsz : args'.toArray.size = L.params.size := by
        have := ha.length
        rw [l5] at hlen
        simp at hlen ⊢; omega
      have hy := run_yield (P := P) l1 hsz
      -- the round's temporaries
      obtain ⟨t1, t2⟩ := putP_TR (ps := L.params.toList) ha l4 l12
      have hz : (L.params.zip args'.toArray).foldl (fun tmps (t, a) => tmps.setIfInBounds t a) L.tmps = (L.params.toList.zip args').foldl (fun tmps (t, a) => tmps.setIfInBounds t a) L.tmps := by
        rw [← Array.foldl_toList, Array.toList_zip]
      rw [hz] at hy
      rw [← l5] at t1
      generalize (L.params.toList.zip args').foldl (fun tmps (t, a) => tmps.setIfInBounds t a) L.tmps = tmps at hy t1 t2
      -- the frame
      let b : Frame := { (default : Frame) with fn := L.fn, kind := .normal, roundOf := some p.b }
      have hfr : Frame.round p.b L.fn tmps L.assign L.body .normal = b.atR { tmps := tmps, defers := [] } [.code L.assign, .beginRound, .code L.body] := by
        simp [Frame.round, Frame.atR, b]
      cases hev : ev P S n (some l) na ⟨putP ps args tm, [], none, h⟩ with
      | fail => rw [hev] at hrr2; exact absurd hrr2.symm hne
      | mk o d =>
        rw [hev] at hrr2
        cases o with
        | norm =>
          dsimp only at hrr2
          cases hdd : d.dfs with
          | cons x xs => rw [hdd] at hrr2; exact absurd hrr2.symm hne
          | nil =>
            rw [hdd] at hrr2
            have hrb : roundBody (ev P S n) l nb d.t d.h = r := hrr2
            -- both parts, whoever calls
            have main : ∀ (c : Frame) (cs : List Frame), RndR P B ι h w (Frame.round p.b L.fn tmps L.assign L.body .normal) c cs r := by
              intro c cs
              have hctx : ∀ ι : Inj, CtxR ι b.kind (c :: cs) none := fun ι b' hb' => by unfold tryRecover; rw [hb']
              have hs : Sd P ι B (some l) [] none h b ([] : List Deferred) (c :: cs) w := ⟨trivial, hctx ι, hR, hB, ⟨p, hp, rfl⟩⟩
              have hgo := hO L.assign na fn [] [] l6 l10 (some l) ⟨putP ps args tm, [], none, h⟩ .norm d hev (.code L.assign) (.inl rfl) B b [.beginRound, .code L.body] ι { tmps := tmps, defers := [] } (c :: cs) w l8 t1 hs (by rw [t2]; exact l9)
              obtain ⟨ι1, a1, cs1, w1, g1, g2, g3, g4⟩ := hgo
              obtain ⟨rfl, hctx1⟩ := g3.ca.none
              have sd1 := g3.sd
              have hdef1 : a1.defers = [] := by
                have := sd1.df
                rw [hdd] at this
                cases hq : a1.defers with
                | nil => rfl
                | cons d ds => rw [hq] at this; exact this.elim
              have hp1 : ι1 l = some p := g3.gr.le _ _ hp
              obtain ⟨ob1, ho3, ho4⟩ := sd1.rel.obj _ _ hp1
              have hrb' := hrb
              unfold roundBody at hrb'
              rw [ho3] at hrb'
              cases ob1 with
              | loop st1 pd1 tm1 ps1 na1 nb1 =>
                cases st1 with
                | succ st1 => exact absurd hrb'.symm hne
                | zero =>
                  replace hrb' : d.h.set l (.loop 1 pd1 tm1 ps1 na1 nb1) (fun h => match ev P S n (some l) nb ⟨d.t, [], none, h⟩ with
                      | .mk o d => (match o with
                        | .pan v => (match d.dfs with | [] => CR.pan v none d.h | _ => .fail)
                        | o => roundEnd l o d.h)
                      | .fail => .fail) = r := hrb'
                  rw [NH.set_eq] at hrb'
                  obtain ⟨L1, m1, m2, m3⟩ := ho4
                  have hbr := run_beginRound (P := P) m1 m2
                  have hlt1 := sd1.rel.lt _ _ hp1
                  have hst1 : SR 1 ({ L1 with state := .busy } : Loop).state := rfl
                  obtain ⟨u1, u2⟩ := sd1.rel.turn (w' := w1.putObj p.b (.loop { L1 with state := .busy })) hp1 (by rw [ho3]; simp) (.loop 1 pd1 tm1 ps1 na1 nb1)
                    ⟨_, World.putObj_heap_same hlt1, hst1, m3⟩ (by simp) rfl rfl rfl (fun q hq => World.putObj_heap_other hq)
                  have hbeg := stepR_beginRound (P := P) (b := b) (a := a1) (k := [.code L.body]) (cs := c :: cs) rfl hbr
                  have hs2 : Sd P ι1 B (some l) [] none (d.h.put l (.loop 1 pd1 tm1 ps1 na1 nb1)) b a1.defers (c :: cs) (w1.putObj p.b (.loop { L1 with state := .busy })) :=
                    ⟨by rw [hdef1]; trivial, hctx ι1, u1, by simpa using sd1.base, ⟨p, hp1, rfl⟩⟩
                  generalize w1.putObj p.b (.loop { L1 with state := .busy }) = w2 at *
                  generalize d.h.put l (.loop 1 pd1 tm1 ps1 na1 nb1) = h2 at *
                  cases hev2 : ev P S n (some l) nb ⟨d.t, [], none, h2⟩ with
                  | fail => rw [hev2] at hrb'; exact absurd hrb'.symm hne
                  | mk o2 d2 =>
                    rw [hev2] at hrb'
                    have hgo2 := hO L.body nb fn bl la l7 l11 (some l) ⟨d.t, [], none, h2⟩ o2 d2 hev2 (.code L.body) (.inl rfl) B b [] ι1 a1 (c :: cs) w2 l8 g2 hs2 (by rw [g4, t2]; exact l9)
                    obtain ⟨ι3, a3, cs3, w3, e1, e2, e3, e4⟩ := hgo2
                    obtain ⟨rfl, _⟩ := e3.ca.none
                    have hp3 : ι3 l = some p := e3.gr.le _ _ hp1
                    have hpre : Steps P (lone (Frame.round p.b L.fn tmps L.assign L.body .normal) (c :: cs) w) (lone (b.atR a1 [.code L.body]) (c :: cs) w2) := by
                      rw [hfr]; exact Steps.trans g1 (.one hbeg)
                    have hgr := (g3.gr.trans u2).trans e3.gr
                    -- the end of a round that is no panic
                    have fin : ∀ (jump : Option Code) (st' : Nat) (pd' : Jump), roundEnd l o2 d2.h = r → (∀ tm ps na nb, (match o2 with
                          | .norm => (d2.h.set l (.loop 0 .none tm ps na nb) fun h => CR.val (.bool true) none h)
                          | .ret => d2.h.set l (.loop 2 .ret tm ps na nb) fun h => .val (.bool false) none h
                          | .exit id => d2.h.set l (.loop 2 (.exit id) tm ps na nb) fun h => .val (.bool false) none h
                          | .pan _ => .fail) = .val (.bool jump.isNone) none (d2.h.put l (.loop st' pd' tm ps na nb))) →
                        (SR st' (if jump.isNone then .ready else .done)) → JR pd' jump →
                        (∀ (v : Value) (w4 : World), (Instr.endRound p.b jump).run P w3 = .ok v w4 → Steps P (lone (b.atR a1 [.code L.body]) (c :: cs) w2) (lone (c.finish v) cs w4)) →
                        RndR P B ι h w (Frame.round p.b L.fn tmps L.assign L.body .normal) c cs r := by
                      intro jump st' pd' hre hval hSR hJR hsteps
                      unfold roundEnd at hre
                      obtain ⟨ob3, ho5, ho6⟩ := e3.sd.rel.obj _ _ hp3
                      rw [ho5] at hre
                      cases ob3 with
                      | loop st3 pd3 tm3 ps3 na3 nb3 =>
                        have hre' := (hval tm3 ps3 na3 nb3).symm.trans hre
                        rw [← hre']
                        obtain ⟨L3, k1, k2, k3, k4⟩ := ho6
                        have hend := run_endRound (P := P) jump k1
                        have hlt3 := e3.sd.rel.lt _ _ hp3
                        obtain ⟨z1, z2⟩ := e3.sd.rel.turn (w' := w3.putObj p.b (.loop { L3 with state := if jump.isNone then .ready else .done, pending := jump })) hp3 (by rw [ho5]; simp) (.loop st' pd' tm3 ps3 na3 nb3)
                          ⟨_, World.putObj_heap_same hlt3, hSR, hJR, k4⟩ (by simp) rfl rfl rfl (fun q hq => World.putObj_heap_other hq)
                        exact ⟨ι3, .bool jump.isNone, _, .bool _, z1, by simpa using e3.sd.base, hgr.trans z2, hpre.trans (hsteps _ _ hend)⟩
                      | _ => exact absurd hre.symm hne
                    cases o2 with
                    | norm =>
                      exact fin none 0 .none hrb' (fun tm ps na nb => NH.set_eq _ _ _ _) rfl rfl fun v w4 he => Steps.trans e1 (.one (stepR_round_end rfl rfl he))
                    | ret =>
                      obtain ⟨k0, e1⟩ := e1
                      exact fin (some .ret) 2 .ret hrb' (fun tm ps na nb => NH.set_eq _ _ _ _) rfl rfl fun v w4 he => Steps.trans e1 (.one (stepR_round_ret rfl rfl he))
                    | exit id =>
                      obtain ⟨k0, e0, e1⟩ := e1
                      exact fin (some (.exit id)) 2 (.exit id) hrb' (fun tm ps na nb => NH.set_eq _ _ _ _) rfl rfl fun v w4 he => Steps.trans e1 (.one (stepR_round_exit rfl rfl (by rw [e0]; rfl) he))
                    | pan v =>
                      dsimp only at hrb'
                      cases hd2 : d2.dfs with
                      | cons x xs => rw [hd2] at hrb'; exact absurd hrb'.symm hne
                      | nil =>
                        rw [hd2] at hrb'
                        rw [← show CR.pan v none d2.h = r from hrb']
                        obtain ⟨td, v', f1, f2⟩ := e1
                        have hdef3 : a3.defers = [] := by
                          have := e3.sd.df
                          rw [hd2] at this
                          cases hq : a3.defers with
                          | nil => rfl
                          | cons d ds => rw [hq] at this; exact this.elim
                        refine ⟨ι3, v', w3, f1, e3.sd.rel, e3.sd.base, hgr, hpre.trans (Steps.trans f2 (.one (step_leave_panicked ⟨rfl, hdef3, fn, l8⟩)))⟩
              | _ => exact absurd hrb'.symm hne
            cases r with
            | fail => trivial
            | val v x h' =>
              intro c cs
              obtain ⟨ι', v', w', q1, q2, q3, q4, q5⟩ := main c cs
              exact ⟨ι', v', w', q1, q2, q3, q4, .inr ⟨w, .inr ⟨p.b, L.fn, tmps, L.assign, L.body, hy, q5⟩⟩⟩
            | pan v x h' =>
              intro c cs
              obtain ⟨ι', v', w', q1, q2, q3, q4, q5⟩ := main c cs
              exact ⟨ι', v', w', q1, q2, q3, q4, w, .inr ⟨p.b, L.fn, tmps, L.assign, L.body, hy, q5⟩⟩
        | _ => exact absurd hrr2.symm hne
  | _ => exact absurd hrr'.symm hne

theorem mach_sound (hM : P.follows .mixedOrders = true) (hK : CheckedP P) (hS : TabOK P S) : ∀ n, CodeOK P S n ∧ CallsOK P S (ev P S n) := by
  intro n
  induction n with
  | zero =>
    have h0 : CodeOK P S 0 := fun c nc fn bl la _ _ rnd d o d' h => by cases h
    exact ⟨h0, ⟨call_sound hK hS h0, round_sound h0⟩⟩
  | succ n ih =>
    have h1 : CodeOK P S (n + 1) := code_step hM ih.1 ih.2
    exact ⟨h1, ⟨call_sound hK hS h1, round_sound h1⟩⟩
end
end Nm

namespace Nm
open Go Go.RowKit

/-! # a call from outside -/
noncomputable def topRun (P : Program) (S : Nat → List NV → Option NV) (n f : Nat) (args : List NV) : CR := codeF P (ev P S n) 3 f args none ⟨.leaf, .e⟩
/-- it returns true -/
noncomputable def topTrue (P : Program) (S : Nat → List NV → Option NV) (n f : Nat) (args : List NV) : Bool :=
  match topRun P S n f args with
  | .val (.bool b) _ _ => b
  | _ => false

def ι0 : Inj := fun _ => none
theorem rel0 (P : Program) (w : World) : Rel P ι0 w.heap.size ⟨.leaf, .e⟩ w where
  obj := fun i p h => by cases h
  inj := fun i j p q h => by cases h
  base := fun i p h => by cases h
  lt := fun i p h => by cases h
  fresh := fun i o h => by rw [show NH.get ⟨.leaf, .e⟩ i = NT.get i .leaf from rfl, NT.get_leaf] at h; cases h

theorem top_val {P : Program} {S : Nat → List NV → Option NV} (hM : P.follows .mixedOrders = true) (hP : P.check = .ok ()) (hS : TabOK P S) {n f : Nat} {args : List NV} {v : NV} {x : Option NV} {h : NH} (hr : topRun P S n f args = .val v x h) {args' : List Value} (ha : VRL ι0 args args') (w : World) :
    Calls P f args'.toArray w fun e w' => (∃ ι v', e = .returned v' ∧ VR ι v v' ∧ Rel P ι w.heap.size h w') ∧ Below w.heap.size w w' := by
  intro cs
  obtain ⟨hO, _⟩ := mach_sound hM (checkedP hP) hS n
  have hD := codeF_sound (checkedP hP) hO 3 f args none ⟨.leaf, .e⟩
  obtain ⟨_, hF⟩ := hD (by rw [show codeF P (ev P S n) 3 f args none ⟨.leaf, .e⟩ = .val v x h from hr]; simp)
  have hF := hF w.heap.size ι0 w args' .normal cs (rel0 P w) (Nat.le_refl _) ha (fun b hb => by unfold tryRecover; rw [hb])
  rw [show codeF P (ev P S n) 3 f args none ⟨.leaf, .e⟩ = .val v x h from hr] at hF
  obtain ⟨ι', v', w', cs', fr, f1, f2, f3, f4, f5, f6, f7, f8, f9⟩ := hF
  obtain ⟨rfl, _⟩ := f5.none
  refine ⟨.returned v', w', fr, ⟨⟨ι', v', rfl, f1, f2⟩, ⟨f4.os, f4.tape, f4.output, f4.size, fun k hk => f4.frame k hk fun i p hi => by cases hi⟩⟩, f6, f8, going_leaving f7 f9⟩

theorem top_true {P : Program} {S : Nat → List NV → Option NV} (hM : P.follows .mixedOrders = true) (hP : P.check = .ok ()) (hS : TabOK P S) {n f : Nat} {args : List NV} (hr : topTrue P S n f args = true) {args' : List Value} (ha : VRL ι0 args args') (w : World) :
    Calls P f args'.toArray w fun e w' => e = .returned (.bool true) ∧ Below w.heap.size w w' := by
  unfold topTrue at hr
  split at hr
  · rename_i b x h hv
    subst hr
    refine (top_val hM hP hS hv ha w).mono ?_
    rintro e w' ⟨⟨ι, v', he, hvr, _⟩, hb⟩
    cases hvr
    exact ⟨he, hb⟩
  · cases hr
end Nm

namespace Nm
open Go Go.RowKit

/-! # answers that are kept -/
mutual
/-- no memory in it -/
def plainV : NV → Bool
  | .bool _ | .int _ _ | .str _ | .nilp | .nils | .nilm | .nilf | .nili => true
  | .ifc _ v => plainV v
  | .agg l => plainL l
  | .tup l => plainL l
  | _ => false
def plainL : List NV → Bool
  | [] => true
  | v :: l => plainV v && plainL l
end
mutual
theorem VR.plain {ι ι' : Inj} : ∀ {v : NV} {v' : Value}, VR ι v v' → plainV v = true → VR ι' v v'
  | _, _, .bool b, _ => .bool b
  | _, _, .int k n, _ => .int k n
  | _, _, .ige k a n h, _ => .ige k a n h
  | _, _, .ile k a n h, _ => .ile k a n h
  | _, _, .str l s h, _ => .str l s h
  | _, _, .nilp, _ => .nilp
  | _, _, .ptr .., h => by simp [plainV] at h
  | _, _, .nils, _ => .nils
  | _, _, .slc .., h => by simp [plainV] at h
  | _, _, .nilm, _ => .nilm
  | _, _, .map .., h => by simp [plainV] at h
  | _, _, .nilf, _ => .nilf
  | _, _, .fn .., h => by simp [plainV] at h
  | _, _, .yld .., h => by simp [plainV] at h
  | _, _, .nili, _ => .nili
  | _, _, .ifc t v v' h, k => .ifc t v v' (VR.plain h (by simpa [plainV] using k))
  | _, _, .agg l l' h h1, k => .agg l l' (VRL.plain h (by simpa [plainV] using k)) h1
  | _, _, .tup l l' h, k => .tup l l' (VRL.plain h (by simpa [plainV] using k))
theorem VRL.plain {ι ι' : Inj} : ∀ {l : List NV} {l' : List Value}, VRL ι l l' → plainL l = true → VRL ι' l l'
  | _, _, .nil, _ => .nil
  | _, _, .cons v v' l l' h hl, k => .cons v v' l l' (VR.plain h (by simp [plainL] at k; exact k.1)) (VRL.plain hl (by simp [plainL] at k; exact k.2))
end

/-- one answer more -/
noncomputable def addS (f : Nat) (args : List NV) (v : NV) (S : Nat → List NV → Option NV) : Nat → List NV → Option NV := fun g l =>
  cond (Nat.beq g f) (cond (sameD (sameV 3) l args) (some v) (S g l)) (S g l)
/-- it answers just that -/
noncomputable def topIs (P : Program) (S : Nat → List NV → Option NV) (n f : Nat) (args : List NV) (v : NV) : Bool :=
  match topRun P S n f args with
  | .val u _ _ => cond (plainL args) (cond (plainV v) (sameV 5 u v) false) false
  | _ => false

theorem codeF_enter {P : Program} {self : Option D4 → NC → Dyn → Res} {d f : Nat} {args : List NV} {ctx : Option NV} {h : NH} (hn : codeF P self d f args ctx h ≠ .fail) : ∃ nf, compF P f = some (.code nf) := by
  cases d with
  | zero => exact absurd rfl hn
  | succ d =>
    rw [codeF_succ] at hn
    cases hc : compF P f with
    | none => rw [hc] at hn; exact absurd rfl hn
    | some x =>
      cases x with
      | code nf => exact ⟨nf, rfl⟩
      | ext e => rw [hc] at hn; exact absurd rfl hn

theorem tab_add {P : Program} {S : Nat → List NV → Option NV} (hM : P.follows .mixedOrders = true) (hP : P.check = .ok ()) (hS : TabOK P S) {n f : Nat} {args : List NV} {v : NV} (hr : topIs P S n f args v = true) : TabOK P (addS f args v S) := by
  intro ι B h w g l l' u hg hR hB hl
  have hg' : cond (Nat.beq g f) (cond (sameD (sameV 3) l args) (some v) (S g l)) (S g l) = some u := hg
  by_cases h1 : Nat.beq g f = true ∧ sameD (sameV 3) l args = true
  · obtain ⟨h2, h3⟩ := h1
    rw [h2, h3] at hg'
    cases hg'
    have := Nat.eq_of_beq_eq_true h2
    subst this
    have := sameD_eq (sameV_eq 3) h3
    subst this
    unfold topIs at hr
    split at hr
    · rename_i u x h0 hrun
      obtain ⟨p1, hr⟩ := condB hr
      obtain ⟨p2, hr⟩ := condB hr
      have := sameV_eq _ _ _ hr
      subst this
      intro c cs
      have hcalls := top_val hM hP hS hrun (hl.plain p1) w
      obtain ⟨e, w', fr, ⟨⟨ι1, v', he, hv, _⟩, hb⟩, hcomes, hfn, hleave⟩ := hcalls (c :: cs)
      subst he
      obtain ⟨nf, hnf⟩ := codeF_enter (show codeF P (ev P S n) 3 g l none ⟨.leaf, .e⟩ ≠ .fail by rw [show codeF P (ev P S n) 3 g l none ⟨.leaf, .e⟩ = _ from hrun]; simp)
      obtain ⟨fn, code, e1, e2, e3, _⟩ := compF_inv hnf
      refine ⟨ι, v', w', hv.plain p2, ⟨fun i p hi => ?_, hR.inj, hR.base, fun i p hi => Nat.lt_of_lt_of_le (hR.lt i p hi) hb.size, hR.fresh⟩, Nat.le_trans hB hb.size, ?_, .inr ⟨w, .inl ⟨g, l'.toArray, run_enter e1 e2 e3 _ w, Steps.trans hcomes (.one (step_leave_returned hleave))⟩⟩⟩
      · obtain ⟨o, o1, o2⟩ := hR.obj i p hi
        exact ⟨o, o1, o2.mono (Inj.le_refl _) (hb.block _ (hR.lt i p hi))⟩
      · exact ⟨Inj.le_refl _, Nat.le_refl _, fun _ _ x => .inl x, fun i p x y => .inr ⟨i, p, x, y, rfl⟩, fun _ _ _ => rfl, hb.size, hb.os, hb.tape, hb.output, fun b hb' _ => hb.block b hb'⟩
    · cases hr
  · have : S g l = some u := by
      cases h2 : Nat.beq g f with
      | false => rw [h2] at hg'; exact hg'
      | true =>
        rw [h2] at hg'
        cases h3 : sameD (sameV 3) l args with
        | false => rw [h3] at hg'; exact hg'
        | true => exact absurd ⟨h2, h3⟩ h1
    exact hS ι B h w g l l' u this hR hB hl
end Nm
