import PyProof.Rows.All
import Wide.All
import OpenK.AllK
import Wide.FinOn
import HandS.ForMost
import HandS.ForExc
import HandS.TupAny
import HandS.TupMul
import HandS.Conv
import HandS.Zip
import HandS.RevRange
import HandS.Strs
import HandS.IsInst
import HandS.Deep
import HandS.Flow
import HandS.TupLe
import HandS.More
import HandS.Evl
import PyProof.ListMulRoad
import PyProof.FactsAll.tuple_2
import PyProof.Draws
import KE.GoesZip
import KE.GoesMore
import HandS.Zip0
import HandS.Iter
import KE.DatumOrd
import HandS.SortKw
import KE.KStateDown
import Lean
import HandS.Ends
import HandS.Words
import HandS.WordsExc
import HandS.Defaults
import HandS.Head0
import HandS.Head1
import HandS.Head2
import HandS.HeadEnd
import HandS.HeadHook1
import HandS.HeadHook2
import PySem.Challenge.RW_lydite_k99_whole_told_apart
section
/-! Lambda terms, renamings, substitutions, beta reduction, its confluence. Plain Lean. -/
set_option Elab.async false
set_option linter.all false
namespace Lam
inductive Tm where
  | var (n : Nat)
  | lam (b : Tm)
  | app (f x : Tm)
  deriving DecidableEq, Repr
open Tm
def upr (r : Nat → Nat) : Nat → Nat
  | 0 => 0
  | n + 1 => r n + 1
def ren (r : Nat → Nat) : Tm → Tm
  | var n => var (r n)
  | lam b => lam (ren (upr r) b)
  | app f x => app (ren r f) (ren r x)
def ups (s : Nat → Tm) : Nat → Tm
  | 0 => var 0
  | n + 1 => ren Nat.succ (s n)
def sub (s : Nat → Tm) : Tm → Tm
  | var n => s n
  | lam b => lam (sub (ups s) b)
  | app f x => app (sub s f) (sub s x)
def scons (v : Tm) (s : Nat → Tm) : Nat → Tm
  | 0 => v
  | n + 1 => s n
def inst (b v : Tm) : Tm := sub (scons v var) b
def size : Tm → Nat
  | var _ => 1
  | lam b => size b + 1
  | app f x => size f + size x + 1
theorem size_pos : ∀ t : Tm, 0 < size t
  | var _ => by simp [size]
  | lam _ => by simp [size]
  | app _ _ => by simp [size]

theorem ren_ext {r q : Nat → Nat} : ∀ (t : Tm), (∀ n, r n = q n) → ren r t = ren q t
  | var n, h => by simp [ren, h]
  | lam b, h => by
    simp only [ren]
    rw [ren_ext b (r := upr r) (q := upr q) (fun n => by cases n <;> simp [upr, h])]
  | app f x, h => by simp only [ren]; rw [ren_ext f h, ren_ext x h]
theorem sub_ext {s q : Nat → Tm} (t : Tm) (h : ∀ n, s n = q n) : sub s t = sub q t := by
  have e : s = q := funext h
  rw [e]
theorem ren_ren {r q : Nat → Nat} : ∀ (t : Tm), ren r (ren q t) = ren (fun n => r (q n)) t
  | var n => rfl
  | lam b => by
    simp only [ren]
    rw [ren_ren b]
    congr 1
    exact ren_ext b fun n => by cases n <;> rfl
  | app f x => by simp only [ren]; rw [ren_ren f, ren_ren x]
theorem ren_id : ∀ (t : Tm), ren (fun n => n) t = t
  | var n => rfl
  | lam b => by
    simp only [ren]
    rw [ren_ext b (q := fun n => n) (fun n => by cases n <;> rfl), ren_id b]
  | app f x => by simp only [ren]; rw [ren_id f, ren_id x]
theorem sub_ren {s : Nat → Tm} {r : Nat → Nat} : ∀ (t : Tm), sub s (ren r t) = sub (fun n => s (r n)) t
  | var n => rfl
  | lam b => by
    simp only [ren, sub]
    rw [sub_ren b]
    congr 1
    exact sub_ext b fun n => by cases n <;> rfl
  | app f x => by simp only [ren, sub]; rw [sub_ren f, sub_ren x]
theorem ren_sub {s : Nat → Tm} {r : Nat → Nat} : ∀ (t : Tm), ren r (sub s t) = sub (fun n => ren r (s n)) t
  | var n => rfl
  | lam b => by
    simp only [ren, sub]
    rw [ren_sub b]
    congr 1
    refine sub_ext b fun n => ?_
    cases n with
    | zero => rfl
    | succ n =>
      show ren (upr r) (ren Nat.succ (s n)) = ren Nat.succ (ren r (s n))
      rw [ren_ren, ren_ren]
      rfl
  | app f x => by simp only [ren, sub]; rw [ren_sub f, ren_sub x]
theorem sub_sub {s q : Nat → Tm} : ∀ (t : Tm), sub s (sub q t) = sub (fun n => sub s (q n)) t
  | var n => rfl
  | lam b => by
    simp only [sub]
    rw [sub_sub b]
    congr 1
    refine sub_ext b fun n => ?_
    cases n with
    | zero => rfl
    | succ n =>
      show sub (ups s) (ren Nat.succ (q n)) = ren Nat.succ (sub s (q n))
      rw [sub_ren, ren_sub]
      rfl
  | app f x => by simp only [sub]; rw [sub_sub f, sub_sub x]
theorem sub_var : ∀ (t : Tm), sub var t = t
  | var n => rfl
  | lam b => by
    simp only [sub]
    rw [sub_ext b (q := var) (fun n => by cases n <;> rfl), sub_var b]
  | app f x => by simp only [sub]; rw [sub_var f, sub_var x]
theorem ren_as_sub {r : Nat → Nat} (t : Tm) : ren r t = sub (fun n => var (r n)) t := by
  have h := ren_sub (s := var) (r := r) t
  rw [sub_var] at h
  rw [h]
  exact sub_ext t fun n => rfl
theorem inst_ren_succ (t v : Tm) : inst (ren Nat.succ t) v = t := by
  unfold inst
  rw [sub_ren]
  exact (sub_ext t fun n => rfl).trans (sub_var t)
theorem sub_inst (s : Nat → Tm) (b v : Tm) : sub s (inst b v) = inst (sub (ups s) b) (sub s v) := by
  unfold inst
  rw [sub_sub, sub_sub]
  refine sub_ext b fun n => ?_
  cases n with
  | zero => rfl
  | succ n =>
    show s n = sub (scons (sub s v) var) (ren Nat.succ (s n))
    rw [sub_ren]
    exact ((sub_ext (s n) fun n => rfl).trans (sub_var (s n))).symm
theorem ren_inst (r : Nat → Nat) (b v : Tm) : ren r (inst b v) = inst (ren (upr r) b) (ren r v) := by
  unfold inst
  rw [ren_sub, sub_ren]
  refine sub_ext b fun n => ?_
  cases n <;> rfl
theorem size_ren {r : Nat → Nat} : ∀ (t : Tm), size (ren r t) = size t
  | var n => rfl
  | lam b => by simp only [ren, size]; rw [size_ren b]
  | app f x => by simp only [ren, size]; rw [size_ren f, size_ren x]
theorem ren_inj {r : Nat → Nat} (hr : ∀ a b, r a = r b → a = b) : ∀ (t u : Tm), ren r t = ren r u → t = u
  | var n, var m, h => by simp only [ren, var.injEq] at h; rw [hr _ _ h]
  | lam a, lam b, h => by
    simp only [ren, lam.injEq] at h
    have hu : ∀ x y, upr r x = upr r y → x = y := fun x y e => by
      cases x <;> cases y <;> simp [upr] at e
      · rfl
      · rw [hr _ _ e]
    rw [ren_inj hu a b h]
  | app a b, app c d, h => by
    simp only [ren, app.injEq] at h
    rw [ren_inj hr a c h.1, ren_inj hr b d h.2]
  | var _, lam _, h => by simp [ren] at h
  | var _, app _ _, h => by simp [ren] at h
  | lam _, var _, h => by simp [ren] at h
  | lam _, app _ _, h => by simp [ren] at h
  | app _ _, var _, h => by simp [ren] at h
  | app _ _, lam _, h => by simp [ren] at h
theorem succ_inj' : ∀ a b : Nat, Nat.succ a = Nat.succ b → a = b := fun _ _ h => Nat.succ.inj h

/-! ### beta -/
inductive Beta : Tm → Tm → Prop
  | red (b v : Tm) : Beta (app (lam b) v) (inst b v)
  | lam {b c : Tm} : Beta b c → Beta (lam b) (lam c)
  | appl {f g x : Tm} : Beta f g → Beta (app f x) (app g x)
  | appr {f x y : Tm} : Beta x y → Beta (app f x) (app f y)
inductive Star {α : Type} (R : α → α → Prop) : α → α → Prop
  | refl (a : α) : Star R a a
  | head {a b c : α} : R a b → Star R b c → Star R a c
theorem Star.one {α : Type} {R : α → α → Prop} {a b : α} (h : R a b) : Star R a b := .head h (.refl b)
theorem Star.trans {α : Type} {R : α → α → Prop} {a b c : α} (h : Star R a b) (k : Star R b c) : Star R a c := by
  induction h with
  | refl a => exact k
  | head r _ ih => exact .head r (ih k)
theorem Star.map {α β : Type} {R : α → α → Prop} {S : β → β → Prop} (f : α → β) (hf : ∀ a b, R a b → Star S (f a) (f b)) {a b : α} (h : Star R a b) : Star S (f a) (f b) := by
  induction h with
  | refl a => exact .refl _
  | head r _ ih => exact (hf _ _ r).trans ih
abbrev Betas := Star Beta
theorem Betas.lam {b c : Tm} (h : Betas b c) : Betas (lam b) (lam c) := h.map _ fun _ _ r => .one (.lam r)
theorem Betas.appl {f g x : Tm} (h : Betas f g) : Betas (app f x) (app g x) := h.map (fun z => app z x) fun _ _ r => .one (.appl r)
theorem Betas.appr {f x y : Tm} (h : Betas x y) : Betas (app f x) (app f y) := h.map (fun z => app f z) fun _ _ r => .one (.appr r)

/-- parallel steps -/
inductive Par : Tm → Tm → Prop
  | var (n : Nat) : Par (var n) (var n)
  | lam {b c : Tm} : Par b c → Par (lam b) (lam c)
  | app {f g x y : Tm} : Par f g → Par x y → Par (app f x) (app g y)
  | red {b c v w : Tm} : Par b c → Par v w → Par (app (lam b) v) (inst c w)
theorem Par.refl : ∀ t : Tm, Par t t
  | Tm.var n => .var n
  | Tm.lam b => .lam (Par.refl b)
  | Tm.app f x => .app (Par.refl f) (Par.refl x)
theorem Par.of_beta {t u : Tm} (h : Beta t u) : Par t u := by
  induction h with
  | red b v => exact .red (.refl b) (.refl v)
  | lam _ ih => exact .lam ih
  | appl _ ih => exact .app ih (.refl _)
  | appr _ ih => exact .app (.refl _) ih
theorem Par.betas {t u : Tm} (h : Par t u) : Betas t u := by
  induction h with
  | var n => exact .refl _
  | lam _ ih => exact ih.lam
  | app _ _ i1 i2 => exact i1.appl.trans i2.appr
  | red _ _ i1 i2 => exact (i1.lam.appl.trans i2.appr).trans (.one (.red _ _))
theorem Par.ren {t u : Tm} (h : Par t u) : ∀ r : Nat → Nat, Par (ren r t) (ren r u) := by
  induction h with
  | var n => intro r; exact .var _
  | lam _ ih => intro r; exact .lam (ih _)
  | app _ _ i1 i2 => intro r; exact .app (i1 r) (i2 r)
  | red _ _ i1 i2 =>
    intro r
    rw [ren_inst]
    exact .red (i1 _) (i2 r)
theorem Par.ups {s q : Nat → Tm} (h : ∀ n, Par (s n) (q n)) : ∀ n, Par (ups s n) (ups q n)
  | 0 => .var 0
  | n + 1 => (h n).ren _
theorem Par.sub {t u : Tm} (h : Par t u) : ∀ {s q : Nat → Tm}, (∀ n, Par (s n) (q n)) → Par (sub s t) (sub q u) := by
  induction h with
  | var n => intro s q hs; exact hs n
  | lam _ ih => intro s q hs; exact .lam (ih (Par.ups hs))
  | app _ _ i1 i2 => intro s q hs; exact .app (i1 hs) (i2 hs)
  | red _ _ i1 i2 =>
    intro s q hs
    rw [sub_inst]
    exact .red (i1 (Par.ups hs)) (i2 hs)
theorem Par.inst {b c v w : Tm} (h : Par b c) (k : Par v w) : Par (inst b v) (inst c w) :=
  h.sub fun n => by
    cases n with
    | zero => exact k
    | succ n => exact .var n
/-- the development -/
def dev : Tm → Tm
  | var n => var n
  | lam b => lam (dev b)
  | app (lam b) v => inst (dev b) (dev v)
  | app f x => app (dev f) (dev x)
theorem Par.tri {t u : Tm} (h : Par t u) : Par u (dev t) := by
  induction h with
  | var n => exact .var n
  | lam _ ih => exact .lam ih
  | @app f g x y hf hx i1 i2 =>
    cases f with
    | var n => exact .app i1 i2
    | app a b => exact .app i1 i2
    | lam b =>
      cases hf with
      | lam hb =>
        cases i1 with
        | lam hb' => exact .red hb' i2
  | red _ _ i1 i2 => exact i1.inst i2
theorem Par.strip {t u : Tm} {v : Tm} (h : Par t u) (k : Star Par t v) : ∃ w, Star Par u w ∧ Par v w := by
  induction k generalizing u with
  | refl a => exact ⟨_, .refl _, h⟩
  | head r _ ih =>
    obtain ⟨w, h1, h2⟩ := ih r.tri
    exact ⟨w, .head h.tri h1, h2⟩
theorem Par.conf {t u v : Tm} (h : Star Par t u) (k : Star Par t v) : ∃ w, Star Par u w ∧ Star Par v w := by
  induction h generalizing v with
  | refl a => exact ⟨v, k, .refl _⟩
  | head r _ ih =>
    obtain ⟨w, h1, h2⟩ := r.strip k
    obtain ⟨z, h3, h4⟩ := ih h1
    exact ⟨z, h3, .head h2 h4⟩
theorem star_par {t u : Tm} : Star Par t u ↔ Betas t u :=
  ⟨fun h => by
    induction h with
    | refl a => exact .refl a
    | head r _ ih => exact r.betas.trans ih,
   fun h => by
    induction h with
    | refl a => exact .refl a
    | head r _ ih => exact .head (.of_beta r) ih⟩
theorem beta_conf {t u v : Tm} (h : Betas t u) (k : Betas t v) : ∃ w, Betas u w ∧ Betas v w := by
  obtain ⟨w, a, b⟩ := Par.conf (star_par.mpr h) (star_par.mpr k)
  exact ⟨w, star_par.mp a, star_par.mp b⟩
/-! ### normal terms -/
def isLam : Tm → Bool
  | lam _ => true
  | _ => false
def nf : Tm → Bool
  | var _ => true
  | lam b => nf b
  | app f x => !isLam f && nf f && nf x
theorem nf_stop {t u : Tm} (h : Beta t u) : nf t = false := by
  induction h with
  | red b v => rfl
  | lam _ ih => exact ih
  | appl _ ih => simp [nf, ih]
  | appr _ ih => simp [nf, ih]
theorem nf_star {t u : Tm} (h : Betas t u) (n : nf t = true) : u = t := by
  cases h with
  | refl => rfl
  | head r _ => rw [nf_stop r] at n; cases n
theorem nf_uniq {t u v : Tm} (h : Betas t u) (k : Betas t v) (hu : nf u = true) (hv : nf v = true) : u = v := by
  obtain ⟨w, a, b⟩ := beta_conf h k
  rw [← nf_star a hu, ← nf_star b hv]
theorem nf_reach {t u v : Tm} (h : Betas t u) (k : Betas t v) (hv : nf v = true) : Betas u v := by
  obtain ⟨w, a, b⟩ := beta_conf h k
  rw [← nf_star b hv]
  exact a
theorem isLam_ren {r : Nat → Nat} (t : Tm) : isLam (ren r t) = isLam t := by cases t <;> rfl
theorem nf_ren {r : Nat → Nat} : ∀ t : Tm, nf (ren r t) = nf t
  | var n => rfl
  | lam b => by simp only [ren, nf]; exact nf_ren b
  | app f x => by simp only [ren, nf]; rw [isLam_ren, nf_ren f, nf_ren x]
end Lam
end
section
/-! Needless abstractions: parallel removal, its simulation of beta, the shrunk term. Plain Lean. -/
set_option Elab.async false
set_option linter.all false
namespace Lam
open Tm
/-- several needless abstractions removed at once -/
inductive Eta : Tm → Tm → Prop
  | var (n : Nat) : Eta (var n) (var n)
  | lam {b c : Tm} : Eta b c → Eta (lam b) (lam c)
  | app {f g x y : Tm} : Eta f g → Eta x y → Eta (app f x) (app g y)
  | eta {s u : Tm} : Eta s u → Eta (lam (app (ren Nat.succ s) (var 0))) u
abbrev Etas := Star Eta
theorem Eta.refl : ∀ t : Tm, Eta t t
  | Tm.var n => .var n
  | Tm.lam b => .lam (Eta.refl b)
  | Tm.app f x => .app (Eta.refl f) (Eta.refl x)
theorem ren_up_succ (r : Nat → Nat) (s : Tm) : ren (upr r) (ren Nat.succ s) = ren Nat.succ (ren r s) := by
  rw [ren_ren, ren_ren]
  rfl
theorem sub_up_succ (q : Nat → Tm) (s : Tm) : sub (ups q) (ren Nat.succ s) = ren Nat.succ (sub q s) := by
  rw [sub_ren, ren_sub]
  rfl
theorem Eta.ren {t u : Tm} (h : Eta t u) : ∀ r : Nat → Nat, Eta (ren r t) (ren r u) := by
  induction h with
  | var n => intro r; exact .var _
  | lam _ ih => intro r; exact .lam (ih _)
  | app _ _ i1 i2 => intro r; exact .app (i1 r) (i2 r)
  | @eta s u _ ih =>
    intro r
    show Eta (Tm.lam (Tm.app (Lam.ren (upr r) (Lam.ren Nat.succ s)) (Tm.var 0))) _
    rw [ren_up_succ]
    exact .eta (ih r)
theorem Eta.ups {s q : Nat → Tm} (h : ∀ n, Eta (s n) (q n)) : ∀ n, Eta (ups s n) (ups q n)
  | 0 => .var 0
  | n + 1 => (h n).ren _
theorem Eta.sub {t u : Tm} (h : Eta t u) : ∀ {s q : Nat → Tm}, (∀ n, Eta (s n) (q n)) → Eta (sub s t) (sub q u) := by
  induction h with
  | var n => intro s q hs; exact hs n
  | lam _ ih => intro s q hs; exact .lam (ih (Eta.ups hs))
  | app _ _ i1 i2 => intro s q hs; exact .app (i1 hs) (i2 hs)
  | @eta a u _ ih =>
    intro s q hs
    show Eta (Tm.lam (Tm.app (Lam.sub (Lam.ups s) (Lam.ren Nat.succ a)) (Tm.var 0))) _
    rw [sub_up_succ]
    exact .eta (ih hs)
theorem Eta.inst {b c v w : Tm} (h : Eta b c) (k : Eta v w) : Eta (inst b v) (inst c w) :=
  h.sub fun n => by
    cases n with
    | zero => exact k
    | succ n => exact .var n
theorem beta_ren : ∀ (s : Tm) {r : Nat → Nat} {u : Tm}, Beta (ren r s) u → ∃ v, u = ren r v ∧ Beta s v
  | var n, r, u, h => by cases h
  | lam b, r, u, h => by
    cases h with
    | lam h =>
      obtain ⟨v, rfl, k⟩ := beta_ren b h
      exact ⟨lam v, rfl, .lam k⟩
  | app f x, r, u, h => by
    generalize e : ren r (app f x) = t at h
    cases h with
    | lam h => simp [ren] at e
    | red b v =>
      simp only [ren, app.injEq] at e
      cases f with
      | var n => simp [ren] at e
      | app a c => simp [ren] at e
      | lam c =>
        simp only [ren, lam.injEq] at e
        refine ⟨inst c x, ?_, .red c x⟩
        rw [ren_inst, e.1, e.2]
    | appl h =>
      simp only [ren, app.injEq] at e
      obtain ⟨e1, e2⟩ := e
      subst e1 e2
      obtain ⟨v, rfl, k⟩ := beta_ren f h
      exact ⟨app v x, rfl, .appl k⟩
    | appr h =>
      simp only [ren, app.injEq] at e
      obtain ⟨e1, e2⟩ := e
      subst e1 e2
      obtain ⟨v, rfl, k⟩ := beta_ren x h
      exact ⟨app f v, rfl, .appr k⟩
theorem inst_up_succ_var (c : Tm) : inst (ren (upr Nat.succ) c) (var 0) = c := by
  unfold inst
  rw [sub_ren]
  exact (sub_ext c fun n => by cases n <;> rfl).trans (sub_var c)
/-- a beta step of a term is made good behind removals -/
theorem Eta.sim {t u : Tm} (h : Eta t u) : ∀ {t' : Tm}, Beta t t' → ∃ u', Betas u u' ∧ Eta t' u' := by
  induction h with
  | var n => intro t' k; cases k
  | @lam b c hb ih =>
    intro t' k
    cases k with
    | lam k =>
      obtain ⟨u', a, e⟩ := ih k
      exact ⟨Tm.lam u', a.lam, .lam e⟩
  | @app f g x y hf hx i1 i2 =>
    intro t' k
    cases k with
    | red b v =>
      cases hf with
      | lam hb => exact ⟨_, .one (.red _ _), hb.inst hx⟩
      | @eta s _ hs =>
        refine ⟨Tm.app g y, .refl _, ?_⟩
        show Eta (Tm.app (Lam.inst (Lam.ren Nat.succ s) x) x) _
        rw [inst_ren_succ]
        exact .app hs hx
    | appl k =>
      obtain ⟨u', a, e⟩ := i1 k
      exact ⟨_, a.appl, .app e hx⟩
    | appr k =>
      obtain ⟨u', a, e⟩ := i2 k
      exact ⟨_, a.appr, .app hf e⟩
  | @eta s u hs ih =>
    intro t' k
    cases k with
    | lam k =>
      generalize e : Tm.app (Lam.ren Nat.succ s) (Tm.var 0) = z at k
      cases k with
      | lam k => simp at e
      | red b v =>
        simp only [app.injEq] at e
        cases s with
        | var n => simp [Lam.ren] at e
        | app a c => simp [Lam.ren] at e
        | lam c =>
          simp only [Lam.ren, lam.injEq] at e
          obtain ⟨e1, e2⟩ := e
          subst e1 e2
          rw [inst_up_succ_var]
          exact ⟨u, .refl _, hs⟩
      | appl k =>
        simp only [app.injEq] at e
        obtain ⟨e1, e2⟩ := e
        subst e1 e2
        obtain ⟨v, rfl, kv⟩ := beta_ren s k
        obtain ⟨u', a, e⟩ := ih kv
        exact ⟨u', a, .eta e⟩
      | appr k =>
        simp only [app.injEq] at e
        obtain ⟨e1, e2⟩ := e
        subst e1 e2
        cases k
theorem Eta.sims {t t' : Tm} (k : Betas t t') : ∀ {u : Tm}, Eta t u → ∃ u', Betas u u' ∧ Eta t' u' := by
  induction k with
  | refl a => intro u h; exact ⟨u, .refl _, h⟩
  | head r _ ih =>
    intro u h
    obtain ⟨u1, a, e⟩ := h.sim r
    obtain ⟨u2, b, e2⟩ := ih e
    exact ⟨u2, a.trans b, e2⟩
theorem Etas.sims {t u : Tm} (h : Etas t u) : ∀ {t' : Tm}, Betas t t' → ∃ u', Betas u u' ∧ Etas t' u' := by
  induction h with
  | refl a => intro t' k; exact ⟨t', k, .refl _⟩
  | head r _ ih =>
    intro t' k
    obtain ⟨u1, a, e⟩ := Eta.sims k r
    obtain ⟨u2, b, e2⟩ := ih a
    exact ⟨u2, b, .head e e2⟩
theorem Eta.isLam {t u : Tm} (h : Eta t u) (n : isLam t = false) : isLam u = false := by
  cases h with
  | var n => rfl
  | lam _ => cases n
  | app _ _ => rfl
  | eta _ => cases n
theorem Eta.nf {t u : Tm} (h : Eta t u) : nf t = true → nf u = true := by
  induction h with
  | var n => intro _; rfl
  | lam _ ih => exact ih
  | app hf _ i1 i2 =>
    intro n
    simp only [Lam.nf, Bool.and_eq_true, Bool.not_eq_true'] at n ⊢
    exact ⟨⟨hf.isLam n.1.1, i1 n.1.2⟩, i2 n.2⟩
  | @eta s u _ ih =>
    intro n
    simp only [Lam.nf, Bool.and_eq_true, Bool.not_eq_true'] at n
    rw [nf_ren] at n
    exact ih n.1.2
theorem Etas.nf {t u : Tm} (h : Etas t u) (n : nf t = true) : Lam.nf u = true := by
  induction h with
  | refl a => exact n
  | head r _ ih => exact ih (r.nf n)
theorem Etas.app {f g x : Tm} (h : Etas f g) : Etas (app f x) (app g x) := h.map (fun z => Tm.app z x) fun _ _ r => .one (.app r (.refl x))
theorem Etas.lam {b c : Tm} (h : Etas b c) : Etas (lam b) (lam c) := h.map _ fun _ _ r => .one (.lam r)

/-! ### the shrunk term -/
/-- does the free variable d occur? -/
def occ (d : Nat) : Tm → Bool
  | var n => n == d
  | lam b => occ (d + 1) b
  | app f x => occ d f || occ d x
/-- the free variables above d less by one -/
def low (d : Nat) : Tm → Tm
  | var n => if n > d then var (n - 1) else var n
  | lam b => lam (low (d + 1) b)
  | app f x => app (low d f) (low d x)
def up (d : Nat) (n : Nat) : Nat := if n < d then n else n + 1
theorem upr_up (d : Nat) (n : Nat) : upr (up d) n = up (d + 1) n := by
  cases n with
  | zero => simp [upr, up]
  | succ n =>
    simp only [upr, up]
    by_cases h : n < d
    · rw [if_pos h, if_pos (by omega)]
    · rw [if_neg h, if_neg (by omega)]
theorem occ_ren_up : ∀ (t : Tm) (d : Nat), occ d (ren (up d) t) = false
  | var n, d => by
    simp only [ren, occ, up]
    by_cases h : n < d
    · rw [if_pos h]; simp; omega
    · rw [if_neg h]; simp; omega
  | lam b, d => by
    simp only [ren, occ]
    rw [ren_ext b (upr_up d)]
    exact occ_ren_up b (d + 1)
  | app f x, d => by simp only [ren, occ]; rw [occ_ren_up f, occ_ren_up x]; rfl
theorem low_ren_up : ∀ (t : Tm) (d : Nat), low d (ren (up d) t) = t
  | var n, d => by
    simp only [ren, low, up]
    by_cases h : n < d
    · rw [if_pos h, if_neg (by omega)]
    · rw [if_neg h, if_pos (by omega)]; rfl
  | lam b, d => by
    simp only [ren, low]
    rw [ren_ext b (upr_up d), low_ren_up b (d + 1)]
  | app f x, d => by simp only [ren, low]; rw [low_ren_up f, low_ren_up x]
theorem up_low : ∀ (t : Tm) (d : Nat), occ d t = false → ren (up d) (low d t) = t
  | var n, d, h => by
    simp only [occ, beq_eq_false_iff_ne, ne_eq] at h
    simp only [low]
    by_cases g : n > d
    · rw [if_pos g]
      simp only [ren, up]
      rw [if_neg (by omega)]
      congr 1
      omega
    · rw [if_neg g]
      simp only [ren, up]
      rw [if_pos (by omega)]
  | lam b, d, h => by
    simp only [occ] at h
    simp only [low, ren]
    rw [ren_ext _ (upr_up d), up_low b (d + 1) h]
  | app f x, d, h => by
    simp only [occ, Bool.or_eq_false_iff] at h
    simp only [low, ren]
    rw [up_low f d h.1, up_low x d h.2]
theorem up_zero (n : Nat) : up 0 n = Nat.succ n := by simp [up]
theorem succ_low (t : Tm) (h : occ 0 t = false) : ren Nat.succ (low 0 t) = t := by
  rw [← ren_ext (low 0 t) up_zero]
  exact up_low t 0 h
theorem low_succ (t : Tm) : low 0 (ren Nat.succ t) = t := by
  rw [← ren_ext t up_zero]
  exact low_ren_up t 0
theorem occ_succ (t : Tm) : occ 0 (ren Nat.succ t) = false := by
  rw [← ren_ext t up_zero]
  exact occ_ren_up t 0
/-- the part begins a needless abstraction, by its body -/
def need0 : Tm → Bool
  | app s (var 0) => !occ 0 s
  | _ => false
def shl (b : Tm) : Tm :=
  match b with
  | app s (var 0) => if occ 0 s then lam b else low 0 s
  | _ => lam b
def shr : Tm → Tm
  | var n => var n
  | lam b => shl (shr b)
  | app f x => app (shr f) (shr x)
theorem occ_upr (r : Nat → Nat) : ∀ (t : Tm) (d : Nat) (q : Nat → Nat), (∀ n, q n = d ↔ n = d) → occ d (ren q t) = occ d t
  | var n, d, q, h => by
    simp only [ren, occ]
    by_cases e : n = d
    · rw [(h n).mpr e, e]
    · have : ¬ q n = d := fun z => e ((h n).mp z)
      rw [beq_eq_false_iff_ne.mpr e, beq_eq_false_iff_ne.mpr this]
  | lam b, d, q, h => by
    simp only [ren, occ]
    refine occ_upr r b (d + 1) (upr q) fun n => ?_
    cases n with
    | zero => simp [upr]
    | succ n => simp only [upr]; rw [Nat.add_right_cancel_iff, h n, Nat.add_right_cancel_iff]
  | app f x, d, q, h => by simp only [ren, occ]; rw [occ_upr r f d q h, occ_upr r x d q h]
theorem occ_up0 (r : Nat → Nat) (t : Tm) : occ 0 (ren (upr r) t) = occ 0 t :=
  occ_upr r t 0 (upr r) fun n => by cases n <;> simp [upr]
theorem shl_ren (r : Nat → Nat) (b : Tm) : shl (ren (upr r) b) = ren r (shl b) := by
  cases b with
  | var n => cases n <;> rfl
  | lam c => rfl
  | app s x =>
    cases x with
    | lam c => rfl
    | app a c => rfl
    | var n =>
      cases n with
      | succ n => rfl
      | zero =>
        show (if occ 0 (ren (upr r) s) then _ else low 0 (ren (upr r) s)) = ren r (if occ 0 s then _ else low 0 s)
        rw [occ_up0]
        cases h : occ 0 s with
        | true => rfl
        | false =>
          show low 0 (ren (upr r) s) = ren r (low 0 s)
          conv => lhs; rw [← succ_low s h]
          rw [ren_up_succ, low_succ]
theorem shr_ren : ∀ (t : Tm) (r : Nat → Nat), shr (ren r t) = ren r (shr t)
  | var n, r => rfl
  | lam b, r => by simp only [ren, shr]; rw [shr_ren b, shl_ren]
  | app f x, r => by simp only [ren, shr]; rw [shr_ren f, shr_ren x]
theorem Eta.shr {t u : Tm} (h : Eta t u) : Lam.shr t = Lam.shr u := by
  induction h with
  | var n => rfl
  | lam _ ih => simp only [Lam.shr]; rw [ih]
  | app _ _ i1 i2 => simp only [Lam.shr]; rw [i1, i2]
  | @eta s u _ ih =>
    show shl (Tm.app (Lam.shr (Lam.ren Nat.succ s)) (Tm.var 0)) = _
    rw [shr_ren]
    show (if occ 0 (Lam.ren Nat.succ (Lam.shr s)) then _ else low 0 (Lam.ren Nat.succ (Lam.shr s))) = _
    rw [occ_succ, low_succ]
    exact ih
theorem Etas.shr {t u : Tm} (h : Etas t u) : Lam.shr t = Lam.shr u := by
  induction h with
  | refl a => rfl
  | head r _ ih => rw [r.shr, ih]
/-- no needless abstraction -/
def en : Tm → Bool
  | var _ => true
  | lam b => !need0 b && en b
  | app f x => en f && en x
theorem shl_need {b : Tm} (h : need0 b = false) : shl b = lam b := by
  cases b with
  | var n => rfl
  | lam c => rfl
  | app s x =>
    cases x with
    | lam c => rfl
    | app a c => rfl
    | var n =>
      cases n with
      | succ n => rfl
      | zero =>
        simp only [need0, Bool.not_eq_false'] at h
        show (if occ 0 s then _ else low 0 s) = _
        rw [h]; rfl
theorem shr_en : ∀ {t : Tm}, en t = true → shr t = t
  | var n, _ => rfl
  | lam b, h => by
    simp only [en, Bool.and_eq_true, Bool.not_eq_true'] at h
    simp only [shr]
    rw [shr_en h.2, shl_need h.1]
  | app f x, h => by
    simp only [en, Bool.and_eq_true] at h
    simp only [shr]
    rw [shr_en h.1, shr_en h.2]
theorem need0_ren (r : Nat → Nat) (b : Tm) : need0 (ren (upr r) b) = need0 b := by
  cases b with
  | var n => cases n <;> rfl
  | lam c => rfl
  | app s x =>
    cases x with
    | lam c => rfl
    | app a c => rfl
    | var n =>
      cases n with
      | succ n => rfl
      | zero =>
        show (!occ 0 (ren (upr r) s)) = !occ 0 s
        rw [occ_up0]
theorem en_ren : ∀ (t : Tm) (r : Nat → Nat), en (ren r t) = en t
  | var n, r => rfl
  | lam b, r => by simp only [ren, en]; rw [need0_ren, en_ren b]
  | app f x, r => by simp only [ren, en]; rw [en_ren f, en_ren x]
/-- the heart of the law's second look: M shrinks to R, R applied leads to a normal shrunk P, M applied leads to a normal N: N shrinks to P -/
theorem meet_shr {A MA RA N P S : Tm} (h1 : Betas A N) (hN : nf N = true) (h2 : Betas A MA) (h3 : Etas MA RA) (h4 : Betas RA P) (hP : nf P = true) (eP : en P = true) (h5 : Etas N S) (eS : en S = true) : S = P := by
  have a := nf_reach h2 h1 hN
  obtain ⟨u, b, c⟩ := h3.sims a
  have nu := Etas.nf c hN
  have e : u = P := nf_uniq b h4 nu hP
  subst e
  rw [← shr_en eS, ← h5.shr, c.shr, shr_en eP]
end Lam
end
section
set_option Elab.async false
set_option autoImplicit false
set_option linter.all false
set_option maxRecDepth 100000
set_option maxHeartbeats 4000000
/-! A logic of statements over plain data, over the layer's readings: data D, slots Sl, what an expression is worth (EvD), what a test says (TsD), what a statement does (CmD). -/
namespace Dl
open PySem L2

/-! ### data -/
inductive D where
  | non | bl (b : Bool) | int (i : Int) | str (s : Str)
  | tup (xs : List D) | lst (xs : List D)
  | dic (ns : List (Int × Int))
  | pos (ab fl : Int) (hs tn : D)
def kvI (ns : List (Int × Int)) : List (Key × V) := ns.map fun p => ((Sum.inl p.1 : Key), V.int p.2)
structure PosAt (C : Addr) (B : Hp) (a : Addr) (v1 v2 v3 v4 : V) : Prop where
  at_ : ∃ dx fs, B a = some (.ins C dx fs) ∧ fs.lookup ("abstractions" : Str) = some v1 ∧ fs.lookup ("first_level" : Str) = some v2 ∧ fs.lookup ("heads" : Str) = some v3 ∧ fs.lookup ("turn" : Str) = some v4 ∧ fs.lookup ("levels" : Str) = none
theorem PosAt.mono {C : Addr} {B B' : Hp} {a : Addr} {v1 v2 v3 v4 : V} (e : Same B B') (h : PosAt C B a v1 v2 v3 v4) : PosAt C B' a v1 v2 v3 v4 := by
  obtain ⟨dx, fs, h1, h2⟩ := h.at_
  exact ⟨dx, fs, e _ _ h1, h2⟩
mutual
inductive Rep (K : PySem.W.Frag) (C : Addr) (B : Hp) : V → D → Prop
  | non : Rep K C B .non .non
  | bl (b : Bool) : Rep K C B (.bl b) (.bl b)
  | int (i : Int) : Rep K C B (.int i) (.int i)
  | str (s : Str) : Rep K C B (.str s) (.str s)
  | tup {a : Addr} {vs : List V} {ds : List D} : SqT K B a vs → Reps K C B vs ds → Rep K C B (.ref a) (.tup ds)
  | lst {a : Addr} {vs : List V} {ds : List D} : B a = some (.lst vs) → Reps K C B vs ds → Rep K C B (.ref a) (.lst ds)
  | dic {a : Addr} {ns : List (Int × Int)} : B a = some (.dK (kvI ns)) → Rep K C B (.ref a) (.dic ns)
  | pos {a : Addr} {ab fl : Int} {hs tn : D} {v w : V} : PosAt C B a (.int ab) (.int fl) v w → Rep K C B v hs → Rep K C B w tn → Rep K C B (.ref a) (.pos ab fl hs tn)
inductive Reps (K : PySem.W.Frag) (C : Addr) (B : Hp) : List V → List D → Prop
  | nil : Reps K C B [] []
  | cons {v : V} {vs : List V} {d : D} {ds : List D} : Rep K C B v d → Reps K C B vs ds → Reps K C B (v :: vs) (d :: ds)
end
section
variable {K : PySem.W.Frag} {C : Addr} {B B' : Hp}
theorem sameT {a : Addr} {xs : List V} (e : Same B B') (h : SqT K B a xs) : SqT K B' a xs := by
  rcases h with (h | ⟨o, h⟩) | h
  · exact .inl (.inl (e _ _ h))
  · exact .inl (.inr ⟨o, e _ _ h⟩)
  · exact .inr h
mutual
theorem Rep.mono (e : Same B B') : ∀ {v : V} {d : D}, Rep K C B v d → Rep K C B' v d
  | _, _, .non => .non
  | _, _, .bl b => .bl b
  | _, _, .int i => .int i
  | _, _, .str s => .str s
  | _, _, .tup h r => .tup (sameT e h) (Reps.mono e r)
  | _, _, .lst h r => .lst (e _ _ h) (Reps.mono e r)
  | _, _, .dic h => .dic (e _ _ h)
  | _, _, .pos h r q => .pos (h.mono e) (Rep.mono e r) (Rep.mono e q)
theorem Reps.mono (e : Same B B') : ∀ {vs : List V} {ds : List D}, Reps K C B vs ds → Reps K C B' vs ds
  | _, _, .nil => .nil
  | _, _, .cons r t => .cons (Rep.mono e r) (Reps.mono e t)
end
theorem Reps.length : ∀ {vs : List V} {ds : List D}, Reps K C B vs ds → vs.length = ds.length
  | _, _, .nil => rfl
  | _, _, .cons _ t => by rw [List.length_cons, List.length_cons, Reps.length t]
theorem Reps.get : ∀ {vs : List V} {ds : List D} {i : Nat} {d : D}, Reps K C B vs ds → ds[i]? = some d → ∃ v, vs[i]? = some v ∧ Rep K C B v d
  | _, _, i, _, .nil, h => by simp at h
  | _, _, 0, _, .cons r _, h => by
    simp only [List.getElem?_cons_zero, Option.some.injEq] at h
    subst h
    exact ⟨_, rfl, r⟩
  | _, _, i + 1, _, .cons _ t, h => by
    simp only [List.getElem?_cons_succ] at h
    obtain ⟨v, e, r⟩ := Reps.get t h
    exact ⟨v, by simpa using e, r⟩
theorem Reps.getV : ∀ {vs : List V} {ds : List D} {i : Nat} {v : V}, Reps K C B vs ds → vs[i]? = some v → ∃ d, ds[i]? = some d ∧ Rep K C B v d
  | _, _, i, _, .nil, h => by simp at h
  | _, _, 0, _, .cons r _, h => by
    simp only [List.getElem?_cons_zero, Option.some.injEq] at h
    subst h
    exact ⟨_, rfl, r⟩
  | _, _, i + 1, _, .cons _ t, h => by
    simp only [List.getElem?_cons_succ] at h
    obtain ⟨v, e, r⟩ := Reps.getV t h
    exact ⟨v, by simpa using e, r⟩
theorem Reps.append : ∀ {vs ws : List V} {ds es : List D}, Reps K C B vs ds → Reps K C B ws es → Reps K C B (vs ++ ws) (ds ++ es)
  | _, _, _, _, .nil, s => s
  | _, _, _, _, .cons r t, s => .cons r (Reps.append t s)
theorem Reps.take : ∀ {vs : List V} {ds : List D} (n : Nat), Reps K C B vs ds → Reps K C B (vs.take n) (ds.take n)
  | _, _, 0, _ => .nil
  | _, _, _ + 1, .nil => .nil
  | _, _, n + 1, .cons r t => .cons r (Reps.take n t)
theorem Reps.drop : ∀ {vs : List V} {ds : List D} (n : Nat), Reps K C B vs ds → Reps K C B (vs.drop n) (ds.drop n)
  | _, _, 0, r => r
  | _, _, _ + 1, .nil => .nil
  | _, _, n + 1, .cons _ t => Reps.drop n t
theorem Reps.snoc_inv {vs : List V} {ds : List D} {d : D} (h : Reps K C B vs (ds ++ [d])) : ∃ ws w, vs = ws ++ [w] ∧ Reps K C B ws ds ∧ Rep K C B w d := by
  induction ds generalizing vs with
  | nil =>
    cases h with
    | cons r t => cases t; exact ⟨[], _, rfl, .nil, r⟩
  | cons e es ih =>
    cases h with
    | cons r t =>
      obtain ⟨ws, w, rfl, h1, h2⟩ := ih t
      exact ⟨_ :: ws, w, rfl, .cons r h1, h2⟩
theorem Reps.one {v : V} {d : D} (h : Rep K C B v d) : Reps K C B [v] [d] := .cons h .nil
theorem Reps.rep {vs : List V} {ds : List D} (h : Reps K C B vs ds) : ∀ n : Nat, Reps K C B (List.replicate n vs).flatten (List.replicate n ds).flatten
  | 0 => .nil
  | n + 1 => by
    rw [List.replicate_succ, List.replicate_succ, List.flatten_cons, List.flatten_cons]
    exact h.append (Reps.rep h n)
theorem Reps.ints_inv : ∀ {vs : List V} {ns : List Int}, Reps K C B vs (ns.map D.int) → vs = ns.map V.int
  | _, [], .nil => rfl
  | _, n :: ns, h => by
    cases h with
    | cons r t => cases r; rw [Reps.ints_inv t]; rfl
theorem Reps.bls_inv : ∀ {vs : List V} {ns : List Bool}, Reps K C B vs (ns.map D.bl) → vs = ns.map V.bl
  | _, [], .nil => rfl
  | _, n :: ns, h => by
    cases h with
    | cons r t => cases r; rw [Reps.bls_inv t]; rfl
theorem Reps.ints : ∀ (ns : List Int), Reps K C B (ns.map V.int) (ns.map D.int)
  | [] => .nil
  | n :: ns => .cons (.int n) (Reps.ints ns)
end

/-! ### slots -/
inductive Sl where
  /-- nothing is known -/
  | un
  /-- data that never change -/
  | im (d : D)
  /-- an own list, an own dict, an own instance: none else knows it -/
  | ml (ds : List D) | md (ns : List (Int × Int)) | po (fs : List (Str × D))
  /-- the stream -/
  | st
  /-- a thing that is kept as it is -/
  | fz (p : Addr) (o : HO)
  /-- a list that may be known to nobody here -/
  | sq (a : Addr) (vs : List V)
def Sl.own : Sl → Bool
  | .ml _ => true
  | .md _ => true
  | .po _ => true
  | _ => false
/-- the stream: its address, its script's list, the script -/
abbrev Zt := Option (Addr × Addr × List Int)
def Zat (Z : Zt) (p : Addr) : Prop := ∃ l ns, Z = some (p, l, ns)
structure StrOk (K : PySem.W.Frag) (Z : Zt) (B H : Hp) : Prop where
  ok : ∀ p l ns, Z = some (p, l, ns) → B p = none ∧ SqL K B l (ns.map V.int) ∧ ∃ (a b : Nat) (c : Fin 2147483648), H p = some (.lst [.ref l, .int a, .int b, .int ((c.val : Nat) : Int)])
def SlOk (K : PySem.W.Frag) (C : Addr) (Z : Zt) (B H : Hp) (x : Option (Option V)) : Sl → Prop
  | .un => True
  | .im d => ∃ v, x = some (some v) ∧ Rep K C B v d
  | .ml ds => ∃ p vs, x = some (some (.ref p)) ∧ B p = none ∧ ¬ Zat Z p ∧ H p = some (.lst vs) ∧ Reps K C B vs ds
  | .md ns => ∃ p, x = some (some (.ref p)) ∧ B p = none ∧ ¬ Zat Z p ∧ H p = some (.dK (kvI ns))
  | .po fs => ∃ p dx ws, x = some (some (.ref p)) ∧ B p = none ∧ ¬ Zat Z p ∧ H p = some (.ins C dx ws) ∧ ws.map (·.1) = fs.map (·.1) ∧ Reps K C B (ws.map (·.2)) (fs.map (·.2))
  | .st => ∃ p, x = some (some (.ref p)) ∧ Zat Z p
  | .fz p o => x = some (some (.ref p)) ∧ B p = some o
  | .sq a vs => x = some (some (.ref a)) ∧ SqL K B a vs
structure Holds (K : PySem.W.Frag) (C : Addr) (Z : Zt) (B H : Hp) (σ : L2.St) (S : List Sl) : Prop where
  len : σ.length = S.length
  sub : Same B H
  str : StrOk K Z B H
  slot : ∀ (i : Nat) (s : Sl), S[i]? = some s → SlOk K C Z B H (σ[i]?) s
  apart : ∀ (i j : Nat) (s t : Sl), i ≠ j → S[i]? = some s → S[j]? = some t → s.own = true → t.own = true → σ[i]? ≠ σ[j]?
/-- all but the stream is as it was -/
def Kp (Z : Zt) (H H' : Hp) : Prop := ∀ a o, H a = some o → ¬ Zat Z a → H' a = some o
def Fre (B H B' : Hp) : Prop := ∀ a o, B' a = some o → B a = some o ∨ H a = none
theorem Kp.refl {Z : Zt} {H : Hp} : Kp Z H H := fun _ _ h _ => h
theorem Kp.trans {Z : Zt} {H H1 H2 : Hp} (a : Kp Z H H1) (b : Kp Z H1 H2) : Kp Z H H2 := fun x o h n => b x o (a x o h n) n
theorem Kp.of {Z : Zt} {H H1 : Hp} (a : Same H H1) : Kp Z H H1 := fun x o h _ => a x o h
theorem Fre.refl {B H : Hp} : Fre B H B := fun _ _ h => .inl h

/-- behind an expression -/
structure Post (K : PySem.W.Frag) (Z : Zt) (B H B' H' : Hp) : Prop where
  sub : Same B B'
  sub2 : Same B' H'
  kp : Kp Z H H'
  fre : Fre B H B'
  str : StrOk K Z B' H'
section
variable {K : PySem.W.Frag} {C : Addr} {Z : Zt} {B B' B1 H H' H1 : Hp} {σ : L2.St} {S : List Sl}
theorem Holds.zsome (h : Holds K C Z B H σ S) {p : Addr} (z : Zat Z p) : ∃ o, H p = some o := by
  obtain ⟨l, ns, e⟩ := z
  obtain ⟨_, _, a, b, c, q⟩ := h.str.ok p l ns e
  exact ⟨_, q⟩
theorem StrOk.some (h : StrOk K Z B H) {p : Addr} (z : Zat Z p) : ∃ o, H p = some o := by
  obtain ⟨l, ns, e⟩ := z
  obtain ⟨_, _, a, b, c, q⟩ := h.ok p l ns e
  exact ⟨_, q⟩
theorem SlOk.mono (str : StrOk K Z B H) (P : Post K Z B H B' H') {x : Option (Option V)} {s : Sl} (h : SlOk K C Z B H x s) : SlOk K C Z B' H' x s := by
  have fr : ∀ p o, B p = none → H p = some o → B' p = none := fun p o h1 h2 => by
    cases e : B' p with
    | none => rfl
    | some u =>
      rcases P.fre p u e with q | q
      · rw [h1] at q; cases q
      · rw [h2] at q; cases q
  cases s with
  | un => trivial
  | im d =>
    obtain ⟨v, e, r⟩ := h
    exact ⟨v, e, r.mono P.sub⟩
  | ml ds =>
    obtain ⟨p, vs, e, b, z, hh, r⟩ := h
    exact ⟨p, vs, e, fr p _ b hh, z, P.kp p _ hh z, r.mono P.sub⟩
  | md ns =>
    obtain ⟨p, e, b, z, hh⟩ := h
    exact ⟨p, e, fr p _ b hh, z, P.kp p _ hh z⟩
  | po fs =>
    obtain ⟨p, dx, ws, e, b, z, hh, r1, r2⟩ := h
    exact ⟨p, dx, ws, e, fr p _ b hh, z, P.kp p _ hh z, r1, r2.mono P.sub⟩
  | st => exact h
  | fz p o => exact ⟨h.1, P.sub _ _ h.2⟩
  | sq a vs => exact ⟨h.1, Same.seq P.sub h.2⟩
theorem Holds.post (h : Holds K C Z B H σ S) (P : Post K Z B H B' H') : Holds K C Z B' H' σ S :=
  ⟨h.len, P.sub2, P.str, fun i s e => (h.slot i s e).mono h.str P, h.apart⟩
theorem Post.refl (h : Holds K C Z B H σ S) : Post K Z B H B H := ⟨.refl B, h.sub, .refl, .refl, h.str⟩
theorem Post.trans (str : StrOk K Z B H) (a : Post K Z B H B1 H1) (b : Post K Z B1 H1 B' H') : Post K Z B H B' H' := by
  refine ⟨a.sub.trans b.sub, b.sub2, a.kp.trans b.kp, fun x o e => ?_, b.str⟩
  rcases b.fre x o e with q | q
  · exact a.fre x o q
  · cases e1 : H x with
    | none => exact .inr rfl
    | some u =>
      by_cases z : Zat Z x
      · obtain ⟨u', q'⟩ := a.str.some z
        rw [q] at q'; cases q'
      · rw [a.kp x u e1 z] at q; cases q
/-- a new thing that never changes -/
theorem Post.new (sub : Same B H) (str : StrOk K Z B H) {p : Addr} {o : HO} (hp : H p = none) : Post K Z B H (upd B p o) (upd H p o) := by
  have bp : B p = none := sub.free hp
  refine ⟨fun a u e => ?_, fun a u e => ?_, fun a u e _ => ?_, fun a u e => ?_, ⟨fun q l ns e => ?_⟩⟩
  · rw [upd_ne (ne_of_none e bp)]; exact e
  · by_cases ha : a = p
    · subst ha; rw [upd_same] at e ⊢; exact e
    · rw [upd_ne ha] at e ⊢; exact sub _ _ e
  · rw [upd_ne (ne_of_none e hp)]; exact e
  · by_cases ha : a = p
    · subst ha; exact .inr hp
    · rw [upd_ne ha] at e; exact .inl e
  · obtain ⟨h1, h2, a, b, c, h3⟩ := str.ok q l ns e
    have nq : q ≠ p := ne_of_none h3 hp
    refine ⟨by rw [upd_ne nq]; exact h1, ?_, a, b, c, by rw [upd_ne nq]; exact h3⟩
    refine Same.seq (fun x u e => ?_) h2
    rw [upd_ne (ne_of_none e bp)]; exact e
/-- a new thing that the base need not know -/
theorem Post.heap (sub : Same B H) (str : StrOk K Z B H) (e : Same H H') : Post K Z B H B H' :=
  ⟨.refl B, sub.trans e, .of e, .refl, ⟨fun q l ns z => by
    obtain ⟨h1, h2, a, b, c, h3⟩ := str.ok q l ns z
    exact ⟨h1, h2, a, b, c, e _ _ h3⟩⟩⟩
end

/-! ### expressions, tests, arguments -/
def EvD (K : PySem.W.Frag) (C : Addr) (te : TE) (S : List Sl) (P : D → Prop) : Prop :=
  ∀ Z B H σ (Q : VK), Holds K C Z B H σ S → (∀ v d B' H', P d → Post K Z B H B' H' → Rep K C B' v d → Q v H') → te σ H Q
def TsD (K : PySem.W.Frag) (C : Addr) (tt : TT) (S : List Sl) (P : Bool → Prop) : Prop :=
  ∀ Z B H σ (Q : Bool → Hp → Prop), Holds K C Z B H σ S → (∀ b B' H', P b → Post K Z B H B' H' → Q b H') → tt σ H Q
/-- data, or the stream -/
def ArOk (K : PySem.W.Frag) (C : Addr) (Z : Zt) (B : Hp) (v : V) : Sl → Prop
  | .im d => Rep K C B v d
  | .st => ∃ p, v = .ref p ∧ Zat Z p
  | .sq a vs => v = .ref a ∧ SqL K B a vs
  | _ => False
inductive ArsOk (K : PySem.W.Frag) (C : Addr) (Z : Zt) (B : Hp) : List V → List Sl → Prop
  | nil : ArsOk K C Z B [] []
  | cons {v : V} {s : Sl} {vs : List V} {ss : List Sl} : ArOk K C Z B v s → ArsOk K C Z B vs ss → ArsOk K C Z B (v :: vs) (s :: ss)
def AgD (K : PySem.W.Frag) (C : Addr) (ta : TA) (S : List Sl) (P : List Sl → Prop) : Prop :=
  ∀ Z B H σ (Q : List V → Hp → Prop), Holds K C Z B H σ S → (∀ vs ss B' H', P ss → Post K Z B H B' H' → ArsOk K C Z B' vs ss → Q vs H') → ta σ H Q
abbrev VlD (K : PySem.W.Frag) (C : Addr) (te : TE) (S : List Sl) (d : D) : Prop := EvD K C te S (fun x => x = d)
section
variable {K : PySem.W.Frag} {C : Addr} {Z : Zt} {B B' B1 H H' H1 : Hp} {σ : L2.St} {S : List Sl}
theorem ArOk.mono (e : Same B B') {v : V} {s : Sl} (h : ArOk K C Z B v s) : ArOk K C Z B' v s := by
  cases s with
  | im d => exact Rep.mono e h
  | st => exact h
  | fz _ _ => exact h
  | sq a vs => exact ⟨h.1, Same.seq e h.2⟩
  | un => exact h
  | ml _ => exact h
  | md _ => exact h
  | po _ => exact h
theorem ArsOk.mono (e : Same B B') {vs : List V} {ss : List Sl} (h : ArsOk K C Z B vs ss) : ArsOk K C Z B' vs ss := by
  induction h with
  | nil => exact .nil
  | cons r _ ih => exact .cons (r.mono e) ih
theorem ArsOk.length {vs : List V} {ss : List Sl} (h : ArsOk K C Z B vs ss) : vs.length = ss.length := by
  induction h with
  | nil => rfl
  | cons _ _ ih => rw [List.length_cons, List.length_cons, ih]
theorem EvD.mono {te : TE} {P P' : D → Prop} (h : EvD K C te S P) (k : ∀ d, P d → P' d) : EvD K C te S P' :=
  fun Z B H σ Q hh q => h Z B H σ Q hh fun v d B' H' p => q v d B' H' (k d p)
theorem TsD.mono {te : TT} {P P' : Bool → Prop} (h : TsD K C te S P) (k : ∀ d, P d → P' d) : TsD K C te S P' :=
  fun Z B H σ Q hh q => h Z B H σ Q hh fun v B' H' p => q v B' H' (k v p)
theorem AgD.mono {te : TA} {P P' : List Sl → Prop} (h : AgD K C te S P) (k : ∀ d, P d → P' d) : AgD K C te S P' :=
  fun Z B H σ Q hh q => h Z B H σ Q hh fun v s B' H' p => q v s B' H' (k s p)
theorem e_var {i : Nat} {d : D} (h : S[i]? = some (.im d)) : VlD K C (tVar i) S d := fun Z B H σ Q hh q => by
  obtain ⟨v, e, r⟩ := hh.slot i _ h
  exact ⟨v, e, q v d B H rfl (.refl hh) r⟩
theorem e_int {i : Int} : VlD K C (tC (.int i)) S (.int i) := fun Z B H σ Q hh q => q _ _ B H rfl (.refl hh) (.int i)
theorem e_str {s : Str} : VlD K C (tC (.str s)) S (.str s) := fun Z B H σ Q hh q => q _ _ B H rfl (.refl hh) (.str s)
theorem e_bl {b : Bool} : VlD K C (tC (.bl b)) S (.bl b) := fun Z B H σ Q hh q => q _ _ B H rfl (.refl hh) (.bl b)
theorem e_non : VlD K C (tC .non) S .non := fun Z B H σ Q hh q => q _ _ B H rfl (.refl hh) .non
/-- a constant of the module that is data -/
theorem e_cst {v : V} {d : D} (r : ∀ B, Rep K C B v d) : VlD K C (tC v) S d := fun Z B H σ Q hh q => q _ _ B H rfl (.refl hh) (r B)
theorem a_nil : AgD K C tNil S (fun ss => ss = []) := fun Z B H σ Q hh q => q _ _ B H rfl (.refl hh) .nil
theorem a_cons {te : TE} {ta : TA} {P : D → Prop} {R : List Sl → Prop} (h1 : EvD K C te S P) (h2 : AgD K C ta S R) : AgD K C (tCons te ta) S (fun ss => ∃ d r, ss = .im d :: r ∧ P d ∧ R r) := fun Z B H σ Q hh q => by
  refine h1 Z B H σ _ hh fun v d B1 H1 p P1 r1 => ?_
  refine h2 Z B1 H1 σ _ (hh.post P1) fun vs ss B2 H2 p2 P2 r2 => ?_
  exact q _ _ B2 H2 ⟨d, ss, rfl, p, p2⟩ (P1.trans hh.str P2) (.cons (show Rep K C B2 v d from r1.mono P2.sub) r2)
theorem a_consV {te : TE} {ta : TA} {d : D} {ss : List Sl} (h1 : VlD K C te S d) (h2 : AgD K C ta S (fun x => x = ss)) : AgD K C (tCons te ta) S (fun x => x = .im d :: ss) :=
  (a_cons h1 h2).mono fun x ⟨d', r, e, e1, e2⟩ => by rw [e, e1, e2]
theorem a_st {i : Nat} {ta : TA} {R : List Sl → Prop} (h : S[i]? = some .st) (h2 : AgD K C ta S R) : AgD K C (tCons (tVar i) ta) S (fun ss => ∃ r, ss = .st :: r ∧ R r) := fun Z B H σ Q hh q => by
  obtain ⟨p, e, z⟩ := hh.slot i _ h
  refine ⟨.ref p, e, ?_⟩
  refine h2 Z B H σ _ hh fun vs ss B2 H2 p2 P2 r2 => ?_
  exact q _ _ B2 H2 ⟨ss, rfl, p2⟩ P2 (.cons ⟨p, rfl, z⟩ r2)
theorem a_stV {i : Nat} {ta : TA} {ss : List Sl} (h : S[i]? = some .st) (h2 : AgD K C ta S (fun x => x = ss)) : AgD K C (tCons (tVar i) ta) S (fun x => x = .st :: ss) :=
  (a_st h h2).mono fun x ⟨r, e, e2⟩ => by rw [e, e2]
/-- plain arguments -/
def Ims (ss : List Sl) (ds : List D) : Prop := ss = ds.map Sl.im
theorem ArsOk.ims : ∀ {vs : List V} {ds : List D}, ArsOk K C Z B vs (ds.map Sl.im) → Reps K C B vs ds
  | _, [], .nil => .nil
  | _, d :: ds, h => by
    cases h with
    | cons r t => exact .cons r (ArsOk.ims t)
theorem ArsOk.of_ims : ∀ {vs : List V} {ds : List D}, Reps K C B vs ds → ArsOk K C Z B vs (ds.map Sl.im)
  | _, [], .nil => .nil
  | _, d :: ds, .cons r t => .cons r (ArsOk.of_ims t)
/-! operations on values -/
def OpD (K : PySem.W.Frag) (C : Addr) (r : R2) (x y : D) (P : D → Prop) : Prop :=
  ∀ Z B H vx vy (Q : VK), Same B H → StrOk K Z B H → Rep K C B vx x → Rep K C B vy y → (∀ v d B' H', P d → Post K Z B H B' H' → Rep K C B' v d → Q v H') → r vx vy H Q
theorem e_op {r : R2} {ta tb : TE} {P R : D → Prop} {Q' : D → D → Prop} (ha : EvD K C ta S P) (hb : ∀ x, P x → EvD K C tb S (Q' x)) (hr : ∀ x y, P x → Q' x y → OpD K C r x y R) : EvD K C (tOp r ta tb) S R := fun Z B H σ Q hh q => by
  refine ha Z B H σ _ hh fun v x B1 H1 p P1 r1 => ?_
  refine hb x p Z B1 H1 σ _ (hh.post P1) fun w y B2 H2 p2 P2 r2 => ?_
  refine hr x y p p2 Z B2 H2 v w Q P2.sub2 P2.str (r1.mono P2.sub) r2 fun u d B3 H3 p3 P3 r3 => ?_
  exact q u d B3 H3 p3 ((P1.trans hh.str P2).trans hh.str P3) r3
theorem v_op {r : R2} {ta tb : TE} {x y z : D} (ha : VlD K C ta S x) (hb : VlD K C tb S y) (hr : OpD K C r x y (fun d => d = z)) : VlD K C (tOp r ta tb) S z :=
  e_op ha (fun _ _ => hb) fun a b e1 e2 => by rw [e1, e2]; exact hr
/-- built-in calls -/
def ClD (K : PySem.W.Frag) (C : Addr) (r : List V → Hp → VK → Prop) (ds : List D) (P : D → Prop) : Prop :=
  ∀ Z B H vs (Q : VK), Same B H → StrOk K Z B H → Reps K C B vs ds → (∀ v d B' H', P d → Post K Z B H B' H' → Rep K C B' v d → Q v H') → r vs H Q
theorem e_cb {r : List V → Hp → VK → Prop} {ta : TA} {P : List Sl → Prop} {R : D → Prop} (ha : AgD K C ta S P) (hr : ∀ ss, P ss → ∃ ds, ss = ds.map Sl.im ∧ ClD K C r ds R) : EvD K C (tCB r ta) S R := fun Z B H σ Q hh q => by
  refine ha Z B H σ _ hh fun vs ss B1 H1 p P1 r1 => ?_
  obtain ⟨ds, rfl, h⟩ := hr ss p
  refine h Z B1 H1 vs Q P1.sub2 P1.str r1.ims fun v d B2 H2 p2 P2 r2 => ?_
  exact q v d B2 H2 p2 (P1.trans hh.str P2) r2
theorem v_cb {r : List V → Hp → VK → Prop} {ta : TA} {ss : List Sl} {ds : List D} {z : D} (ha : AgD K C ta S (fun x => x = ss)) (hr : ClD K C r ds (fun d => d = z)) (e : ss = ds.map Sl.im := by rfl) : VlD K C (tCB r ta) S z :=
  e_cb ha fun s h => ⟨ds, by rw [h, e], hr⟩
/-- a comparison as a test -/
theorem t_test {te : TE} {P : Bool → Prop} (h : EvD K C te S (fun d => ∃ b, d = .bl b ∧ P b)) : TsD K C (tTest te) S P := fun Z B H σ Q hh q => by
  refine h Z B H σ _ hh fun v d B1 H1 p P1 r1 => ?_
  obtain ⟨b, rfl, pb⟩ := p
  cases r1
  exact ⟨b, rfl, q b B1 H1 pb P1⟩
theorem t_testV {te : TE} {b : Bool} (h : VlD K C te S (.bl b)) : TsD K C (tTest te) S (fun x => x = b) := t_test (h.mono fun d e => ⟨b, e, rfl⟩)
theorem t_b {te : TE} {P : Bool → Prop} (h : EvD K C te S (fun d => ∃ b, d = .bl b ∧ P b)) : TsD K C (tB te) S P := fun Z B H σ Q hh q => by
  refine h Z B H σ _ hh fun v d B1 H1 p P1 r1 => ?_
  obtain ⟨b, rfl, pb⟩ := p
  cases r1
  exact ⟨b, rfl, q b B1 H1 pb P1⟩
theorem t_bV {te : TE} {b : Bool} (h : VlD K C te S (.bl b)) : TsD K C (tB te) S (fun x => x = b) := t_b (h.mono fun d e => ⟨b, e, rfl⟩)
theorem t_and {t u : TT} {P R : Bool → Prop} (h1 : TsD K C t S P) (h2 : P true → TsD K C u S R) (h3 : P false → R false) : TsD K C (tAnd t u) S R := fun Z B H σ Q hh q => by
  refine h1 Z B H σ _ hh fun b B1 H1 p P1 => ?_
  cases b with
  | true => exact iteT (h2 p Z B1 H1 σ _ (hh.post P1) fun c B2 H2 p2 P2 => q c B2 H2 p2 (P1.trans hh.str P2))
  | false => exact iteF (q false B1 H1 (h3 p) P1)
theorem t_or {t u : TT} {P R : Bool → Prop} (h1 : TsD K C t S P) (h2 : P false → TsD K C u S R) (h3 : P true → R true) : TsD K C (tOr t u) S R := fun Z B H σ Q hh q => by
  refine h1 Z B H σ _ hh fun b B1 H1 p P1 => ?_
  cases b with
  | true => exact iteT (q true B1 H1 (h3 p) P1)
  | false => exact iteF (h2 p Z B1 H1 σ _ (hh.post P1) fun c B2 H2 p2 P2 => q c B2 H2 p2 (P1.trans hh.str P2))
theorem t_not {t : TT} {P R : Bool → Prop} (h1 : TsD K C t S P) (h : ∀ b, P b → R (!b)) : TsD K C (tNot t) S R := fun Z B H σ Q hh q =>
  h1 Z B H σ _ hh fun b B1 H1 p P1 => q _ B1 H1 (h b p) P1
theorem t_andV {t u : TT} {a b : Bool} (h1 : TsD K C t S (fun x => x = a)) (h2 : a = true → TsD K C u S (fun x => x = b)) : TsD K C (tAnd t u) S (fun x => x = (a && b)) :=
  t_and h1 (fun e => (h2 e.symm).mono fun x ex => by rw [ex, ← e]; rfl) fun e => by rw [← e]; rfl
theorem t_orV {t u : TT} {a b : Bool} (h1 : TsD K C t S (fun x => x = a)) (h2 : a = false → TsD K C u S (fun x => x = b)) : TsD K C (tOr t u) S (fun x => x = (a || b)) :=
  t_or h1 (fun e => (h2 e.symm).mono fun x ex => by rw [ex, ← e]; rfl) fun e => by rw [← e]; rfl
theorem t_notV {t : TT} {a : Bool} (h1 : TsD K C t S (fun x => x = a)) : TsD K C (tNot t) S (fun x => x = !a) := t_not h1 fun b e => by rw [e]
theorem e_andV {ta tb : TE} {a : Bool} {z : Bool} (h1 : VlD K C ta S (.bl a)) (h2 : a = true → VlD K C tb S (.bl z)) (h3 : a = false → z = false) : VlD K C (tAndV ta tb) S (.bl z) := fun Z B H σ Q hh q => by
  refine h1 Z B H σ _ hh fun v d B1 H1 p P1 r1 => ?_
  subst p
  cases r1
  refine ⟨a, rfl, ?_⟩
  cases a with
  | true => exact iteT (h2 rfl Z B1 H1 σ _ (hh.post P1) fun c d B2 H2 p2 P2 r2 => q c d B2 H2 p2 (P1.trans hh.str P2) r2)
  | false =>
    cases h3 rfl
    exact iteF (q _ _ B1 H1 rfl P1 (.bl false))
theorem e_orV {ta tb : TE} {a : Bool} {z : Bool} (h1 : VlD K C ta S (.bl a)) (h2 : a = false → VlD K C tb S (.bl z)) (h3 : a = true → z = true) : VlD K C (tOrV ta tb) S (.bl z) := fun Z B H σ Q hh q => by
  refine h1 Z B H σ _ hh fun v d B1 H1 p P1 r1 => ?_
  subst p
  cases r1
  refine ⟨a, rfl, ?_⟩
  cases a with
  | false => exact iteF (h2 rfl Z B1 H1 σ _ (hh.post P1) fun c d B2 H2 p2 P2 r2 => q c d B2 H2 p2 (P1.trans hh.str P2) r2)
  | true =>
    cases h3 rfl
    exact iteT (q _ _ B1 H1 rfl P1 (.bl true))
theorem e_notV {ta : TE} {a : Bool} (h1 : VlD K C ta S (.bl a)) : VlD K C (tNotV ta) S (.bl (!a)) := fun Z B H σ Q hh q => by
  refine h1 Z B H σ _ hh fun v d B1 H1 p P1 r1 => ?_
  subst p
  cases r1
  exact ⟨a, rfl, q _ _ B1 H1 rfl P1 (.bl _)⟩
theorem e_if {t : TT} {ta tb : TE} {P : Bool → Prop} {R : D → Prop} (h : TsD K C t S P) (h1 : P true → EvD K C ta S R) (h2 : P false → EvD K C tb S R) : EvD K C (tIf t ta tb) S R := fun Z B H σ Q hh q => by
  refine h Z B H σ _ hh fun b B1 H1 p P1 => ?_
  cases b with
  | true => exact iteT (h1 p Z B1 H1 σ _ (hh.post P1) fun c d B2 H2 p2 P2 r2 => q c d B2 H2 p2 (P1.trans hh.str P2) r2)
  | false => exact iteF (h2 p Z B1 H1 σ _ (hh.post P1) fun c d B2 H2 p2 P2 r2 => q c d B2 H2 p2 (P1.trans hh.str P2) r2)
end
end Dl
end
section
set_option Elab.async false
set_option autoImplicit false
set_option linter.all false
set_option maxRecDepth 100000
set_option maxHeartbeats 4000000
/-! Statements over data. -/
namespace Dl
open PySem L2
def OwnAt (S : List Sl) (σ : L2.St) (a : Addr) : Prop := ∃ (i : Nat) (s : Sl), S[i]? = some s ∧ s.own = true ∧ σ[i]? = some (some (.ref a))
structure Step (K : PySem.W.Frag) (C : Addr) (Z : Zt) (B H : Hp) (σ : L2.St) (S : List Sl) (B' H' : Hp) (σ' : L2.St) (S' : List Sl) : Prop where
  sub : Same B B'
  kp : ∀ a o, H a = some o → ¬ Zat Z a → ¬ OwnAt S σ a → H' a = some o ∧ ¬ OwnAt S' σ' a
  fre : ∀ a o, B' a = some o → B a = some o ∨ H a = none ∨ OwnAt S σ a
  hold : Holds K C Z B' H' σ' S'
structure Fin (K : PySem.W.Frag) (C : Addr) (Z : Zt) (B H : Hp) (σ : L2.St) (S : List Sl) (B' H' : Hp) : Prop where
  sub : Same B B'
  sub2 : Same B' H'
  kp : ∀ a o, H a = some o → ¬ Zat Z a → ¬ OwnAt S σ a → H' a = some o
  fre : ∀ a o, B' a = some o → B a = some o ∨ H a = none ∨ OwnAt S σ a
  str : StrOk K Z B' H'
section
variable {K : PySem.W.Frag} {C : Addr} {Z : Zt} {B B' B1 H H' H1 : Hp} {σ σ' σ1 : L2.St} {S S' S1 : List Sl}
theorem Holds.ownz (h : Holds K C Z B H σ S) {a : Addr} (o : OwnAt S σ a) : ¬ Zat Z a ∧ B a = none ∧ ∃ u, H a = some u := by
  obtain ⟨i, s, e, ho, es⟩ := o
  have q := h.slot i s e
  cases s with
  | un => cases ho
  | im d => cases ho
  | st => cases ho
  | fz _ _ => cases ho
  | sq _ _ => cases ho
  | ml ds =>
    obtain ⟨p, vs, e1, b, z, hh, r⟩ := q
    rw [es] at e1; cases e1
    exact ⟨z, b, _, hh⟩
  | md ns =>
    obtain ⟨p, e1, b, z, hh⟩ := q
    rw [es] at e1; cases e1
    exact ⟨z, b, _, hh⟩
  | po fs =>
    obtain ⟨p, dx, ws, e1, b, z, hh, r⟩ := q
    rw [es] at e1; cases e1
    exact ⟨z, b, _, hh⟩
theorem Step.refl (h : Holds K C Z B H σ S) : Step K C Z B H σ S B H σ S := ⟨.refl B, fun a o e _ n => ⟨e, n⟩, fun a o e => .inl e, h⟩
theorem Post.step (h : Holds K C Z B H σ S) (P : Post K Z B H B' H') : Step K C Z B H σ S B' H' σ S :=
  ⟨P.sub, fun a o e z n => ⟨P.kp a o e z, n⟩, fun a o e => (P.fre a o e).elim .inl fun q => .inr (.inl q), h.post P⟩
theorem Step.trans (h : Holds K C Z B H σ S) (a : Step K C Z B H σ S B1 H1 σ1 S1) (b : Step K C Z B1 H1 σ1 S1 B' H' σ' S') : Step K C Z B H σ S B' H' σ' S' := by
  refine ⟨a.sub.trans b.sub, fun x o e z n => ?_, fun x o e => ?_, b.hold⟩
  · obtain ⟨e1, n1⟩ := a.kp x o e z n
    exact b.kp x o e1 z n1
  · have key : (∃ o', H x = some o') → ¬ OwnAt S σ x → ¬ Zat Z x → (∃ o', H1 x = some o') ∧ ¬ OwnAt S1 σ1 x := fun ⟨o', eo⟩ n z => by
      obtain ⟨e1, n1⟩ := a.kp x o' eo z n
      exact ⟨⟨_, e1⟩, n1⟩
    rcases b.fre x o e with q | q | q
    · exact a.fre x o q
    · by_cases n : OwnAt S σ x
      · exact .inr (.inr n)
      · cases e0 : H x with
        | none => exact .inr (.inl rfl)
        | some u =>
          by_cases z : Zat Z x
          · obtain ⟨u', q'⟩ := a.hold.str.some z
            rw [q] at q'; cases q'
          · obtain ⟨⟨_, e1⟩, _⟩ := key ⟨u, e0⟩ n z
            rw [q] at e1; cases e1
    · by_cases n : OwnAt S σ x
      · exact .inr (.inr n)
      · cases e0 : H x with
        | none => exact .inr (.inl rfl)
        | some u =>
          have z := (a.hold.ownz q).1
          exact absurd q (key ⟨u, e0⟩ n z).2
theorem Step.fin (h : Holds K C Z B H σ S) (a : Step K C Z B H σ S B1 H1 σ1 S1) (b : Fin K C Z B1 H1 σ1 S1 B' H') : Fin K C Z B H σ S B' H' := by
  refine ⟨a.sub.trans b.sub, b.sub2, fun x o e z n => ?_, fun x o e => ?_, b.str⟩
  · obtain ⟨e1, n1⟩ := a.kp x o e z n
    exact b.kp x o e1 z n1
  · have key : (∃ o', H x = some o') → ¬ OwnAt S σ x → ¬ Zat Z x → (∃ o', H1 x = some o') ∧ ¬ OwnAt S1 σ1 x := fun ⟨o', eo⟩ n z => by
      obtain ⟨e1, n1⟩ := a.kp x o' eo z n
      exact ⟨⟨_, e1⟩, n1⟩
    rcases b.fre x o e with q | q | q
    · exact a.fre x o q
    · by_cases n : OwnAt S σ x
      · exact .inr (.inr n)
      · cases e0 : H x with
        | none => exact .inr (.inl rfl)
        | some u =>
          by_cases z : Zat Z x
          · obtain ⟨u', q'⟩ := a.hold.str.some z
            rw [q] at q'; cases q'
          · obtain ⟨⟨_, e1⟩, _⟩ := key ⟨u, e0⟩ n z
            rw [q] at e1; cases e1
    · by_cases n : OwnAt S σ x
      · exact .inr (.inr n)
      · cases e0 : H x with
        | none => exact .inr (.inl rfl)
        | some u =>
          have z := (a.hold.ownz q).1
          exact absurd q (key ⟨u, e0⟩ n z).2
theorem Post.fin (h : Holds K C Z B H σ S) (P : Post K Z B H B' H') : Fin K C Z B H σ S B' H' :=
  ⟨P.sub, P.sub2, fun a o e z _ => P.kp a o e z, fun a o e => (P.fre a o e).elim .inl fun q => .inr (.inl q), P.str⟩
end
/-! ### statements -/
def CmD (K : PySem.W.Frag) (C : Addr) (ts : TS) (S : List Sl) (N : List Sl → Prop) (R : D → Prop) (Bk Ct : List Sl → Prop) : Prop :=
  ∀ Z B H σ (E : Ends), Holds K C Z B H σ S →
    (∀ S' σ' B' H', N S' → Step K C Z B H σ S B' H' σ' S' → E.nx σ' H') →
    (∀ v d B' H', R d → Fin K C Z B H σ S B' H' → Rep K C B' v d → E.rt v H') →
    (∀ S' σ' B' H', Bk S' → Step K C Z B H σ S B' H' σ' S' → E.bk σ' H') →
    (∀ S' σ' B' H', Ct S' → Step K C Z B H σ S B' H' σ' S' → E.ct σ' H') → ts E σ H
abbrev no : List Sl → Prop := fun _ => False
section
variable {K : PySem.W.Frag} {C : Addr} {S : List Sl} {N N' M Bk Ct : List Sl → Prop} {R : D → Prop} {t u : TS}
theorem CmD.mono {Bk' Ct' : List Sl → Prop} {R' : D → Prop} (h : CmD K C t S N R Bk Ct) (k : ∀ S', N S' → N' S') (kr : ∀ d, R d → R' d) (kb : ∀ S', Bk S' → Bk' S') (kc : ∀ S', Ct S' → Ct' S') : CmD K C t S N' R' Bk' Ct' :=
  fun Z B H σ E hh n r b c => h Z B H σ E hh (fun S' σ' B' H' p => n S' σ' B' H' (k S' p)) (fun v d B' H' p => r v d B' H' (kr d p)) (fun S' σ' B' H' p => b S' σ' B' H' (kb S' p)) (fun S' σ' B' H' p => c S' σ' B' H' (kc S' p))
theorem CmD.nx (h : CmD K C t S N R Bk Ct) (k : ∀ S', N S' → N' S') : CmD K C t S N' R Bk Ct := h.mono k (fun _ p => p) (fun _ p => p) fun _ p => p
theorem c_seq (h : CmD K C t S M R Bk Ct) (k : ∀ S', M S' → CmD K C u S' N R Bk Ct) : CmD K C (tSeq t u) S N R Bk Ct := fun Z B H σ E hh n r b c => by
  refine h Z B H σ { E with nx := u E } hh (fun S1 σ1 B1 H1 p st => ?_) r b c
  refine k S1 p Z B1 H1 σ1 E st.hold (fun S' σ' B' H' p' st' => n S' σ' B' H' p' (st.trans hh st')) (fun v d B' H' p' f q => r v d B' H' p' (st.fin hh f) q)
    (fun S' σ' B' H' p' st' => b S' σ' B' H' p' (st.trans hh st')) (fun S' σ' B' H' p' st' => c S' σ' B' H' p' (st.trans hh st'))
theorem c_next (h : N S) : CmD K C tNext S N R Bk Ct := fun Z B H σ E hh n r b c => n S σ B H h (.refl hh)
theorem c_brk (h : Bk S) : CmD K C tBreak S N R Bk Ct := fun Z B H σ E hh n r b c => b S σ B H h (.refl hh)
theorem c_cont (h : Ct S) : CmD K C tCont S N R Bk Ct := fun Z B H σ E hh n r b c => c S σ B H h (.refl hh)
theorem c_drop {te : TE} {P : D → Prop} (h : EvD K C te S P) (n : N S) : CmD K C (tDrop te) S N R Bk Ct := fun Z B H σ E hh nn r b c =>
  h Z B H σ _ hh fun v d B1 H1 p P1 r1 => nn S σ B1 H1 n (P1.step hh)
theorem c_ret {te : TE} {P : D → Prop} (h : EvD K C te S P) (k : ∀ d, P d → R d) : CmD K C (tRet te) S N R Bk Ct := fun Z B H σ E hh nn r b c =>
  h Z B H σ _ hh fun v d B1 H1 p P1 r1 => r v d B1 H1 (k d p) (P1.fin hh) r1
theorem c_retV {te : TE} {d : D} (h : VlD K C te S d) (k : R d) : CmD K C (tRet te) S N R Bk Ct := c_ret h fun x e => by rw [e]; exact k
theorem c_retN (k : R .non) : CmD K C tRetN S N R Bk Ct := fun Z B H σ E hh nn r b c => r .non .non B H k ((Post.refl hh).fin hh) .non
theorem c_if {c : TT} {P : Bool → Prop} (h : TsD K C c S P) (h1 : P true → CmD K C t S N R Bk Ct) (h2 : P false → CmD K C u S N R Bk Ct) : CmD K C (tIfS c t u) S N R Bk Ct := fun Z B H σ E hh nn r b cc =>
  h Z B H σ _ hh fun x B1 H1 p P1 => by
    have st := P1.step hh
    cases x with
    | true => exact iteT (h1 p Z B1 H1 σ E st.hold (fun S' σ' B' H' p' st' => nn S' σ' B' H' p' (st.trans hh st')) (fun v d B' H' p' f q => r v d B' H' p' (st.fin hh f) q)
        (fun S' σ' B' H' p' st' => b S' σ' B' H' p' (st.trans hh st')) (fun S' σ' B' H' p' st' => cc S' σ' B' H' p' (st.trans hh st')))
    | false => exact iteF (h2 p Z B1 H1 σ E st.hold (fun S' σ' B' H' p' st' => nn S' σ' B' H' p' (st.trans hh st')) (fun v d B' H' p' f q => r v d B' H' p' (st.fin hh f) q)
        (fun S' σ' B' H' p' st' => b S' σ' B' H' p' (st.trans hh st')) (fun S' σ' B' H' p' st' => cc S' σ' B' H' p' (st.trans hh st')))
theorem c_yes {c : TT} (h : TsD K C c S (fun b => b = true)) (h1 : CmD K C t S N R Bk Ct) : CmD K C (tIfS c t u) S N R Bk Ct := c_if h (fun _ => h1) fun e => by cases e
theorem c_no {c : TT} (h : TsD K C c S (fun b => b = false)) (h1 : CmD K C u S N R Bk Ct) : CmD K C (tIfS c t u) S N R Bk Ct := c_if h (fun e => by cases e) fun _ => h1
end
/-! ### a slot is set -/
section
variable {K : PySem.W.Frag} {C : Addr} {Z : Zt} {B B' B1 H H' H1 : Hp} {σ σ' σ1 : L2.St} {S S' S1 : List Sl}
/-- slot i set to a value: the rest stays -/
theorem Holds.set (h : Holds K C Z B H σ S) {i : Nat} {v : V} {s : Sl} (ok : SlOk K C Z B H (some (some v)) s) (ap : s.own = true → ∀ a, v = .ref a → ∀ (j : Nat) (t : Sl), j ≠ i → S[j]? = some t → t.own = true → σ[j]? ≠ some (some (.ref a))) :
    Holds K C Z B H (σ.set i (some v)) (S.set i s) := by
  have own_ref : ∀ (s : Sl) (x : Option (Option V)), SlOk K C Z B H x s → s.own = true → ∃ a, x = some (some (.ref a)) := fun s x q o => by
    cases s with
    | un => cases o
    | im d => cases o
    | st => cases o
    | fz _ _ => cases o
    | sq _ _ => cases o
    | ml ds => obtain ⟨p, _, e, _⟩ := q; exact ⟨p, e⟩
    | md ns => obtain ⟨p, e, _⟩ := q; exact ⟨p, e⟩
    | po fs => obtain ⟨p, _, _, e, _⟩ := q; exact ⟨p, e⟩
  refine ⟨by rw [List.length_set, List.length_set]; exact h.len, h.sub, h.str, fun j t e => ?_, fun j k t u hjk e1 e2 o1 o2 => ?_⟩
  · by_cases hj : j = i
    · subst hj
      by_cases hl : j < S.length
      · rw [List.getElem?_set_self hl] at e
        cases e
        rw [List.getElem?_set_self (by rw [h.len]; exact hl)]
        exact ok
      · rw [List.getElem?_eq_none (by rw [List.length_set]; omega)] at e; cases e
    · rw [List.getElem?_set_ne (Ne.symm hj)] at e ⊢
      exact h.slot j t e
  · by_cases hj : j = i
    · subst hj
      have hl : j < S.length := by
        by_cases hl : j < S.length
        · exact hl
        · rw [List.getElem?_eq_none (by rw [List.length_set]; omega)] at e1; cases e1
      rw [List.getElem?_set_self hl] at e1
      cases e1
      rw [List.getElem?_set_ne hjk] at e2 ⊢
      rw [List.getElem?_set_self (by rw [h.len]; exact hl)]
      obtain ⟨a, ea⟩ := own_ref _ _ ok o1
      cases ea
      exact fun z => ap o1 a rfl k u (Ne.symm hjk) e2 o2 z.symm
    · by_cases hk : k = i
      · subst hk
        have hl : k < S.length := by
          by_cases hl : k < S.length
          · exact hl
          · rw [List.getElem?_eq_none (by rw [List.length_set]; omega)] at e2; cases e2
        rw [List.getElem?_set_self hl] at e2
        cases e2
        rw [List.getElem?_set_ne (Ne.symm hj)] at e1 ⊢
        rw [List.getElem?_set_self (by rw [h.len]; exact hl)]
        obtain ⟨a, ea⟩ := own_ref _ _ ok o2
        cases ea
        exact fun z => ap o2 a rfl j t hj e1 o1 z
      · rw [List.getElem?_set_ne (Ne.symm hj)] at e1 ⊢
        rw [List.getElem?_set_ne (Ne.symm hk)] at e2 ⊢
        exact h.apart j k t u hjk e1 e2 o1 o2
theorem ownAt_set_im {i : Nat} {v : V} {s : Sl} {a : Addr} (ns : s.own = false) (h : OwnAt (S.set i s) (σ.set i (some v)) a) : OwnAt S σ a := by
  obtain ⟨j, t, e, o, es⟩ := h
  by_cases hj : j = i
  · subst hj
    by_cases hl : j < S.length
    · rw [List.getElem?_set_self hl] at e; cases e; rw [ns] at o; cases o
    · rw [List.getElem?_eq_none (by rw [List.length_set]; omega)] at e; cases e
  · rw [List.getElem?_set_ne (Ne.symm hj)] at e es
    exact ⟨j, t, e, o, es⟩
theorem Step.set_im (h : Holds K C Z B H σ S) {i : Nat} {v : V} {d : D} (r : Rep K C B v d) : Step K C Z B H σ S B H (σ.set i (some v)) (S.set i (.im d)) :=
  ⟨.refl B, fun a o e z n => ⟨e, fun q => n (ownAt_set_im rfl q)⟩, fun a o e => .inl e, h.set (s := .im d) ⟨v, rfl, r⟩ fun o => by cases o⟩
theorem Step.set_st (h : Holds K C Z B H σ S) {i : Nat} {p : Addr} (z : Zat Z p) : Step K C Z B H σ S B H (σ.set i (some (.ref p))) (S.set i .st) :=
  ⟨.refl B, fun a o e z n => ⟨e, fun q => n (ownAt_set_im rfl q)⟩, fun a o e => .inl e, h.set (s := .st) ⟨p, rfl, z⟩ fun o => by cases o⟩
/-- a new own thing at slot i -/
theorem Step.set_new (h : Holds K C Z B H σ S) {i : Nat} {p : Addr} {o : HO} {s : Sl} (hp : H p = none) (ok : Holds K C Z B (upd H p o) σ S → ¬ Zat Z p → B p = none → SlOk K C Z B (upd H p o) (some (some (.ref p))) s) :
    Step K C Z B H σ S B (upd H p o) (σ.set i (some (.ref p))) (S.set i s) := by
  have sm : Same H (upd H p o) := fun x u e => by rw [upd_ne (ne_of_none e hp)]; exact e
  have h1 : Holds K C Z B (upd H p o) σ S := h.post (Post.heap h.sub h.str sm)
  have nz : ¬ Zat Z p := fun z => by
    obtain ⟨u, e⟩ := h.str.some z
    rw [hp] at e; cases e
  have ne : ∀ (j : Nat) (t : Sl), S[j]? = some t → t.own = true → σ[j]? ≠ some (some (.ref p)) := fun j t e o z => by
    obtain ⟨_, _, u, q⟩ := h.ownz ⟨j, t, e, o, z⟩
    rw [hp] at q; cases q
  refine ⟨.refl B, fun a u e z n => ⟨sm a u e, fun q => ?_⟩, fun a u e => .inl e, h1.set (ok h1 nz (h.sub.free hp)) fun _ a e j t hj e1 o => by cases e; exact ne j t e1 o⟩
  obtain ⟨j, t, e1, o1, es⟩ := q
  by_cases hj : j = i
  · subst hj
    by_cases hl : j < σ.length
    · rw [List.getElem?_set_self hl] at es
      cases es
      rw [hp] at e; cases e
    · rw [List.getElem?_eq_none (by rw [List.length_set]; omega)] at es; cases es
  · rw [List.getElem?_set_ne (Ne.symm hj)] at e1 es
    exact n ⟨j, t, e1, o1, es⟩
/-- an own thing is changed in place -/
theorem Step.own (h : Holds K C Z B H σ S) {i : Nat} {p : Addr} {o : HO} {s0 s : Sl} (e0 : S[i]? = some s0) (ho : s0.own = true) (ep : σ[i]? = some (some (.ref p))) (so : s.own = true)
    (ok : SlOk K C Z B (upd H p o) (some (some (.ref p))) s) : Step K C Z B H σ S B (upd H p o) σ (S.set i s) := by
  obtain ⟨nz, nb, u0, e00⟩ := h.ownz ⟨i, s0, e0, ho, ep⟩
  have hil : i < S.length := by
    by_cases hl : i < S.length
    · exact hl
    · rw [List.getElem?_eq_none (by omega)] at e0; cases e0
  have keep : ∀ x, x ≠ p → (upd H p o) x = H x := fun x hx => upd_ne hx
  refine ⟨.refl B, fun a u e z n => ?_, fun a u e => .inl e, ⟨by rw [List.length_set]; exact h.len, fun a u e => ?_, ⟨fun q l ns e => ?_⟩, fun j t e => ?_, fun j k t u hjk e1 e2 o1 o2 => ?_⟩⟩
  · have ap : a ≠ p := fun q => n ⟨i, s0, e0, ho, by rw [ep, q]⟩
    refine ⟨by rw [keep a ap]; exact e, fun q => n ?_⟩
    obtain ⟨j, t, e1, o1, es⟩ := q
    by_cases hj : j = i
    · subst hj
      rw [ep] at es
      cases es
      exact absurd rfl ap
    · rw [List.getElem?_set_ne (Ne.symm hj)] at e1
      exact ⟨j, t, e1, o1, es⟩
  · have ap : a ≠ p := fun q => by rw [q, nb] at e; cases e
    rw [keep a ap]; exact h.sub a u e
  · obtain ⟨h1, h2, a, b, c, h3⟩ := h.str.ok q l ns e
    have qp : q ≠ p := fun z => nz ⟨l, ns, by rw [e, z]⟩
    exact ⟨h1, h2, a, b, c, by rw [keep q qp]; exact h3⟩
  · by_cases hj : j = i
    · subst hj
      rw [List.getElem?_set_self hil] at e
      cases e
      rw [ep]
      exact ok
    · rw [List.getElem?_set_ne (Ne.symm hj)] at e
      have q := h.slot j t e
      have np : ∀ a, t.own = true → σ[j]? = some (some (.ref a)) → a ≠ p := fun a o1 z1 z2 => h.apart j i t s0 hj e e0 o1 ho (by rw [z1, ep, z2])
      cases t with
      | un => trivial
      | im d => exact q
      | st => exact q
      | fz _ _ => exact q
      | sq _ _ => exact q
      | ml ds =>
        obtain ⟨p1, vs, e1, b, z, hh, r⟩ := q
        exact ⟨p1, vs, e1, b, z, by rw [keep p1 (np p1 rfl e1)]; exact hh, r⟩
      | md ns =>
        obtain ⟨p1, e1, b, z, hh⟩ := q
        exact ⟨p1, e1, b, z, by rw [keep p1 (np p1 rfl e1)]; exact hh⟩
      | po fs =>
        obtain ⟨p1, dx, ws, e1, b, z, hh, r⟩ := q
        exact ⟨p1, dx, ws, e1, b, z, by rw [keep p1 (np p1 rfl e1)]; exact hh, r⟩
  · by_cases hj : j = i
    · subst hj
      rw [List.getElem?_set_ne hjk] at e2
      exact h.apart j k s0 u hjk e0 e2 ho o2
    · rw [List.getElem?_set_ne (Ne.symm hj)] at e1
      by_cases hk : k = i
      · subst hk
        exact h.apart j k t s0 hjk e1 e0 o1 ho
      · rw [List.getElem?_set_ne (Ne.symm hk)] at e2
        exact h.apart j k t u hjk e1 e2 o1 o2
/-- an own thing is frozen: from now on it is data -/
theorem Step.freeze (h : Holds K C Z B H σ S) {i : Nat} {p : Addr} {u : HO} {s0 : Sl} {d : D} (e0 : S[i]? = some s0) (ho : s0.own = true) (ep : σ[i]? = some (some (.ref p))) (hu : H p = some u) (r : Rep K C (upd B p u) (.ref p) d) :
    Step K C Z B H σ S (upd B p u) H σ (S.set i (.im d)) := by
  obtain ⟨nz, nb, u0, e00⟩ := h.ownz ⟨i, s0, e0, ho, ep⟩
  have hil : i < S.length := by
    by_cases hl : i < S.length
    · exact hl
    · rw [List.getElem?_eq_none (by omega)] at e0; cases e0
  have sm : Same B (upd B p u) := fun x w e => by rw [upd_ne (ne_of_none e nb)]; exact e
  have nown : ∀ j t, S[j]? = some t → t.own = true → j ≠ i → ∀ a, σ[j]? = some (some (.ref a)) → a ≠ p := fun j t e o1 hj a z1 z2 => h.apart j i t s0 hj e e0 o1 ho (by rw [z1, ep, z2])
  refine ⟨sm, fun a w e z n => ⟨e, fun q => n ?_⟩, fun a w e => ?_, ⟨by rw [List.length_set]; exact h.len, fun a w e => ?_, ⟨fun q l ns e => ?_⟩, fun j t e => ?_, fun j k t w hjk e1 e2 o1 o2 => ?_⟩⟩
  · obtain ⟨j, t, e1, o1, es⟩ := q
    by_cases hj : j = i
    · subst hj
      rw [List.getElem?_set_self hil] at e1
      cases e1; cases o1
    · rw [List.getElem?_set_ne (Ne.symm hj)] at e1
      exact ⟨j, t, e1, o1, es⟩
  · by_cases ha : a = p
    · exact .inr (.inr ⟨i, s0, e0, ho, by rw [ep, ha]⟩)
    · rw [upd_ne ha] at e; exact .inl e
  · by_cases ha : a = p
    · subst ha; rw [upd_same] at e; cases e; exact hu
    · rw [upd_ne ha] at e; exact h.sub a w e
  · obtain ⟨h1, h2, a, b, c, h3⟩ := h.str.ok q l ns e
    have qp : q ≠ p := fun z => nz ⟨l, ns, by rw [e, z]⟩
    exact ⟨by rw [upd_ne qp]; exact h1, Same.seq sm h2, a, b, c, h3⟩
  · by_cases hj : j = i
    · subst hj
      rw [List.getElem?_set_self hil] at e
      cases e
      exact ⟨.ref p, ep, r⟩
    · rw [List.getElem?_set_ne (Ne.symm hj)] at e
      have q := h.slot j t e
      have np := nown j t e
      cases t with
      | un => trivial
      | im d =>
        obtain ⟨v, e1, r1⟩ := q
        exact ⟨v, e1, r1.mono sm⟩
      | st => exact q
      | fz _ _ => exact ⟨q.1, sm _ _ q.2⟩
      | sq _ _ => exact ⟨q.1, Same.seq sm q.2⟩
      | ml ds =>
        obtain ⟨p1, vs, e1, b, z, hh, r⟩ := q
        exact ⟨p1, vs, e1, by rw [upd_ne (np rfl hj p1 e1)]; exact b, z, hh, r.mono sm⟩
      | md ns =>
        obtain ⟨p1, e1, b, z, hh⟩ := q
        exact ⟨p1, e1, by rw [upd_ne (np rfl hj p1 e1)]; exact b, z, hh⟩
      | po fs =>
        obtain ⟨p1, dx, ws, e1, b, z, hh, r1, r2⟩ := q
        exact ⟨p1, dx, ws, e1, by rw [upd_ne (np rfl hj p1 e1)]; exact b, z, hh, r1, r2.mono sm⟩
  · by_cases hj : j = i
    · subst hj
      rw [List.getElem?_set_self hil] at e1
      cases e1; cases o1
    · rw [List.getElem?_set_ne (Ne.symm hj)] at e1
      by_cases hk : k = i
      · subst hk
        rw [List.getElem?_set_self hil] at e2
        cases e2; cases o2
      · rw [List.getElem?_set_ne (Ne.symm hk)] at e2
        exact h.apart j k t w hjk e1 e2 o1 o2
end
/-! ### statements that set slots -/
section
variable {K : PySem.W.Frag} {C : Addr} {S : List Sl} {N N' M Bk Ct : List Sl → Prop} {R : D → Prop} {t u : TS} {te : TE} {P : D → Prop} {i j : Nat}
theorem c_asg (h : EvD K C te S P) (k : ∀ d, P d → N (S.set i (.im d))) : CmD K C (tAsg te (gName i)) S N R Bk Ct := fun Z B H σ E hh nn r b c =>
  h Z B H σ _ hh fun v d B1 H1 p P1 r1 => nn _ _ B1 H1 (k d p) ((P1.step hh).trans hh (Step.set_im (hh.post P1) r1))
theorem c_asgV {d : D} (h : VlD K C te S d) (k : N (S.set i (.im d))) : CmD K C (tAsg te (gName i)) S N R Bk Ct := c_asg h fun x e => by rw [e]; exact k
/-- x = [..]: an own list -/
theorem c_lst {ta : TA} {ds : List D} (h : AgD K C ta S (fun x => x = ds.map Sl.im)) (k : N (S.set i (.ml ds))) (hz : ds.length ≤ 1000 := by first | decide | simp) : CmD K C (tAsg (tLst ta) (gName i)) S N R Bk Ct := fun Z B H σ E hh nn r b c => by
  refine h Z B H σ _ hh fun vs ss B1 H1 e P1 r1 => ?_
  subst e
  have hh1 := hh.post P1
  have q := r1.ims
  refine ⟨by rw [q.length]; exact Nat.le_of_lt (small1000 hz), fun p hp => ?_⟩
  exact nn _ _ B1 _ k ((P1.step hh).trans hh (Step.set_new hh1 hp fun _ nz nb => ⟨p, vs, rfl, nb, nz, upd_same, q⟩))
theorem c_lst0 (k : N (S.set i (.ml []))) : CmD K C (tAsg (tLst tNil) (gName i)) S N R Bk Ct := c_lst (ds := []) a_nil k
/-- x += e, two ints -/
theorem c_aug {f : Int → Int → Int} {a b : Int} (hi : S[i]? = some (.im (.int a))) (h : VlD K C te S (.int b)) (k : N (S.set i (.im (.int (f a b))))) : CmD K C (tAug i te (ipI f)) S N R Bk Ct := fun Z B H σ E hh nn r bb c => by
  obtain ⟨v, e, rv⟩ := hh.slot i _ hi
  cases rv
  refine ⟨.int a, e, ?_⟩
  refine h Z B H σ _ hh fun w d B1 H1 p P1 r1 => ?_
  subst p
  cases r1
  exact ⟨a, b, rfl, rfl, nn _ _ B1 H1 k ((P1.step hh).trans hh (Step.set_im (hh.post P1) (.int _)))⟩
/-- xs.append(e) -/
theorem c_append {ds : List D} (hj : S[j]? = some (.ml ds)) (h : EvD K C te S P) (hl : ds.length < sizeLine) (k : ∀ d, P d → N (S.set j (.ml (ds ++ [d])))) :
    CmD K C (tDrop (tBM K "list" rAppend (tVar j) (tCons te tNil))) S N R Bk Ct := fun Z B H σ E hh nn r b c => by
  obtain ⟨p, vs, e, nb, nz, hp, rr⟩ := hh.slot j _ hj
  refine ⟨.ref p, e, .inl ⟨rfl, vs, SqL.of hp⟩, ?_⟩
  refine h Z B H σ _ hh fun v d B1 H1 pp P1 r1 => ?_
  have hh1 := hh.post P1
  have hp1 : H1 p = some (.lst vs) := P1.kp p _ hp nz
  have nb1 : B1 p = none := by
    obtain ⟨p', vs', e', nb', _⟩ := hh1.slot j _ hj
    rw [e] at e'; cases e'; exact nb'
  have rr1 := rr.mono P1.sub
  refine ⟨p, vs, v, rfl, rfl, hp1, by rw [rr.length]; exact hl, ?_⟩
  exact nn _ _ B1 _ (k d pp) ((P1.step hh).trans hh (Step.own hh1 hj rfl e rfl ⟨p, vs ++ [v], rfl, nb1, nz, upd_same, rr1.append (.one r1)⟩))
theorem c_appendV {ds : List D} {d : D} (hj : S[j]? = some (.ml ds)) (h : VlD K C te S d) (hl : ds.length < sizeLine) (k : N (S.set j (.ml (ds ++ [d])))) :
    CmD K C (tDrop (tBM K "list" rAppend (tVar j) (tCons te tNil))) S N R Bk Ct := c_append hj h hl fun x e => by rw [e]; exact k
/-- x = xs.pop() -/
theorem c_pop {ds : List D} {d : D} (hj : S[j]? = some (.ml (ds ++ [d]))) (k : N ((S.set j (.ml ds)).set i (.im d))) : CmD K C (tAsg (tBM0 K "list" rPop (tVar j)) (gName i)) S N R Bk Ct := fun Z B H σ E hh nn r b c => by
  obtain ⟨p, vs, e, nb, nz, hp, rr⟩ := hh.slot j _ hj
  obtain ⟨ws, w, rfl, r1, r2⟩ := rr.snoc_inv
  refine ⟨.ref p, e, .inl ⟨rfl, _, SqL.of hp⟩, p, ws ++ [w], w, rfl, rfl, hp, ?_, ?_⟩
  · rw [List.length_append, List.length_singleton, Nat.add_sub_cancel, List.getElem?_append_right (Nat.le_refl _), Nat.sub_self]; rfl
  · have st : Step K C Z B H σ S B (upd H p (.lst (ws ++ [w]).dropLast)) σ (S.set j (.ml ds)) := Step.own hh hj rfl e rfl ⟨p, _, rfl, nb, nz, upd_same, by rw [List.dropLast_concat]; exact r1⟩
    exact nn _ _ B _ k (st.trans hh (Step.set_im st.hold r2))
/-- xs.extend(e) -/
theorem c_extend {ds es : List D} (hj : S[j]? = some (.ml ds)) (h : VlD K C te S (.lst es)) (hl : ds.length + es.length ≤ sizeLine) (k : N (S.set j (.ml (ds ++ es)))) :
    CmD K C (tDrop (tBM K "list" rExtend (tVar j) (tCons te tNil))) S N R Bk Ct := fun Z B H σ E hh nn r b c => by
  obtain ⟨p, vs, e, nb, nz, hp, rr⟩ := hh.slot j _ hj
  refine ⟨.ref p, e, .inl ⟨rfl, vs, SqL.of hp⟩, ?_⟩
  refine h Z B H σ _ hh fun v d B1 H1 pp P1 r1 => ?_
  subst pp
  have hh1 := hh.post P1
  have hp1 : H1 p = some (.lst vs) := P1.kp p _ hp nz
  have nb1 : B1 p = none := by
    obtain ⟨p', vs', e', nb', _⟩ := hh1.slot j _ hj
    rw [e] at e'; cases e'; exact nb'
  have rr1 := rr.mono P1.sub
  cases r1 with
  | @lst a ws _ ha r1 =>
    refine ⟨p, a, vs, ws, rfl, rfl, hp1, P1.sub2 _ _ ha, by rw [rr.length, r1.length]; exact hl, ?_⟩
    exact nn _ _ B1 _ k ((P1.step hh).trans hh (Step.own hh1 hj rfl e rfl ⟨p, vs ++ ws, rfl, nb1, nz, upd_same, rr1.append r1⟩))
/-- an own list becomes data -/
theorem c_freeze {ds : List D} (hj : S[j]? = some (.ml ds)) (h : CmD K C t (S.set j (.im (.lst ds))) N R Bk Ct) : CmD K C t S N R Bk Ct := fun Z B H σ E hh nn r b c => by
  obtain ⟨p, vs, e, nb, nz, hp, rr⟩ := hh.slot j _ hj
  have sm : Same B (upd B p (.lst vs)) := fun x w q => by rw [upd_ne (ne_of_none q nb)]; exact q
  have st : Step K C Z B H σ S (upd B p (.lst vs)) H σ (S.set j (.im (.lst ds))) := Step.freeze hh hj rfl e hp (.lst upd_same (rr.mono sm))
  exact h Z _ H σ E st.hold (fun S' σ' B' H' p' st' => nn S' σ' B' H' p' (st.trans hh st')) (fun v d B' H' p' f q => r v d B' H' p' (st.fin hh f) q)
        (fun S' σ' B' H' p' st' => b S' σ' B' H' p' (st.trans hh st')) (fun S' σ' B' H' p' st' => c S' σ' B' H' p' (st.trans hh st'))
theorem c_freezeD {ns : List (Int × Int)} (hj : S[j]? = some (.md ns)) (h : CmD K C t (S.set j (.im (.dic ns))) N R Bk Ct) : CmD K C t S N R Bk Ct := fun Z B H σ E hh nn r b c => by
  obtain ⟨p, e, nb, nz, hp⟩ := hh.slot j _ hj
  have st : Step K C Z B H σ S (upd B p (.dK (kvI ns))) H σ (S.set j (.im (.dic ns))) := Step.freeze hh hj rfl e hp (.dic upd_same)
  exact h Z _ H σ E st.hold (fun S' σ' B' H' p' st' => nn S' σ' B' H' p' (st.trans hh st')) (fun v d B' H' p' f q => r v d B' H' p' (st.fin hh f) q)
        (fun S' σ' B' H' p' st' => b S' σ' B' H' p' (st.trans hh st')) (fun S' σ' B' H' p' st' => c S' σ' B' H' p' (st.trans hh st'))
/-- return of an own list -/
theorem c_retL {ds : List D} (hj : S[j]? = some (.ml ds)) (k : R (.lst ds)) : CmD K C (tRet (tVar j)) S N R Bk Ct := by
  refine c_freeze hj (c_retV (d := .lst ds) (e_var ?_) k)
  have hl : j < S.length := by
    by_cases hl : j < S.length
    · exact hl
    · rw [List.getElem?_eq_none (by omega)] at hj; cases hj
  rw [List.getElem?_set_self hl]
/-- a state may be forgotten in part -/
theorem c_un (h : CmD K C t (S.set j .un) N R Bk Ct) (ns : ∀ s, S[j]? = some s → s.own = false) : CmD K C t S N R Bk Ct := fun Z B H σ E hh nn r b c => by
  have st : Step K C Z B H σ S B H σ (S.set j .un) := by
    have key : ∀ (k : Nat) (t : Sl), (S.set j .un)[k]? = some t → t = .un ∨ S[k]? = some t := fun k t e => by
      by_cases hk : k = j
      · subst hk
        by_cases hl : k < S.length
        · rw [List.getElem?_set_self hl] at e; cases e; exact .inl rfl
        · rw [List.getElem?_eq_none (by rw [List.length_set]; omega)] at e; cases e
      · rw [List.getElem?_set_ne (Ne.symm hk)] at e; exact .inr e
    refine ⟨.refl B, fun a o e z n => ⟨e, fun ⟨k, t, e1, o1, es⟩ => ?_⟩, fun a o e => .inl e, ⟨by rw [List.length_set]; exact hh.len, hh.sub, hh.str, fun k t e => ?_, fun k l t u hkl e1 e2 o1 o2 => ?_⟩⟩
    · rcases key k t e1 with z | z
      · subst z; cases o1
      · exact n ⟨k, t, z, o1, es⟩
    · rcases key k t e with z | z
      · subst z; trivial
      · exact hh.slot k t z
    · rcases key k t e1 with z | z
      · subst z; cases o1
      · rcases key l u e2 with y | y
        · subst y; cases o2
        · exact hh.apart k l t u hkl z y o1 o2
  exact h Z _ H σ E st.hold (fun S' σ' B' H' p' st' => nn S' σ' B' H' p' (st.trans hh st')) (fun v d B' H' p' f q => r v d B' H' p' (st.fin hh f) q)
        (fun S' σ' B' H' p' st' => b S' σ' B' H' p' (st.trans hh st')) (fun S' σ' B' H' p' st' => c S' σ' B' H' p' (st.trans hh st'))
end
end Dl
end
section
set_option Elab.async false
set_option autoImplicit false
set_option linter.all false
set_option maxRecDepth 100000
set_option maxHeartbeats 4000000
/-! Loops, targets, comprehensions over data. -/
namespace Dl
open PySem L2
/-- what a walked thing yields, one datum a turn -/
def ItOk (K : PySem.W.Frag) (C : Addr) (Z : Zt) (J : It) (B : Hp) (items : List D) : Prop :=
  ∀ (i : Nat) (B1 H1 : Hp), Same B B1 → Same B1 H1 → StrOk K Z B1 H1 →
    (i = items.length → J.stop i H1) ∧ ∀ d, items[i]? = some d → J.go i H1 ∧ ∀ x H', J.yld i H1 x H' → ∃ B', Post K Z B1 H1 B' H' ∧ Rep K C B' x d
def ItD (K : PySem.W.Frag) (C : Addr) (wi : TI) (S : List Sl) (items : List D) : Prop :=
  ∀ Z B H σ (R : It → Hp → Prop), Holds K C Z B H σ S → (∀ J B' H', Post K Z B H B' H' → ItOk K C Z J B' items → R J H') → wi σ H R
/-- a target takes a datum -/
def TgD (K : PySem.W.Frag) (C : Addr) (g : TG) (d : D) (S : List Sl) (S2 : List Sl) : Prop :=
  ∀ Z B H σ v (Q : L2.St → Hp → Prop), Holds K C Z B H σ S → Rep K C B v d → (∀ σ', Step K C Z B H σ S B H σ' S2 → Q σ' H) → g v σ H Q
section
variable {K : PySem.W.Frag} {C : Addr} {S : List Sl} {N M Bk Ct : List Sl → Prop} {R : D → Prop} {t u : TS} {te : TE} {P : D → Prop} {i j k : Nat}
theorem tg_name {d : D} : TgD K C (gName j) d S (S.set j (.im d)) := fun Z B H σ v Q hh r q => q _ (Step.set_im hh r)
theorem tg_two {d e : D} : TgD K C (gTup K 2 (gCons (gName j) (gCons (gName k) gNil))) (.tup [d, e]) S ((S.set j (.im d)).set k (.im e)) := fun Z B H σ v Q hh r q => by
  cases r with
  | tup hT rr =>
    cases rr with
    | cons r1 rr =>
      cases rr with
      | cons r2 rr =>
        cases rr
        refine ⟨_, _, rfl, sameT hh.sub hT, rfl, _, _, rfl, _, _, rfl, rfl, ?_⟩
        have s1 := Step.set_im (i := j) hh r1
        exact q _ (s1.trans hh (Step.set_im s1.hold r2))
theorem tg_three {l : Nat} {d e f : D} : TgD K C (gTup K 3 (gCons (gName j) (gCons (gName k) (gCons (gName l) gNil)))) (.tup [d, e, f]) S (((S.set j (.im d)).set k (.im e)).set l (.im f)) := fun Z B H σ v Q hh r q => by
  cases r with
  | tup hT rr =>
    cases rr with
    | cons r1 rr =>
      cases rr with
      | cons r2 rr =>
        cases rr with
        | cons r3 rr =>
          cases rr
          refine ⟨_, _, rfl, sameT hh.sub hT, rfl, _, _, rfl, _, _, rfl, _, _, rfl, rfl, ?_⟩
          have s1 := Step.set_im (i := j) hh r1
          have s2 := s1.trans hh (Step.set_im (i := k) s1.hold r2)
          exact q _ (s2.trans hh (Step.set_im s2.hold r3))
/-- a target statement -/
theorem c_tg {g : TG} (h : EvD K C te S P) (k : ∀ d, P d → ∃ S2, TgD K C g d S S2 ∧ N S2) : CmD K C (tAsg te g) S N R Bk Ct := fun Z B H σ E hh nn r b c =>
  h Z B H σ _ hh fun v d B1 H1 p P1 r1 => by
    obtain ⟨S2, tg, n⟩ := k d p
    exact tg Z B1 H1 σ v _ (hh.post P1) r1 fun σ' st => nn _ _ B1 H1 n ((P1.step hh).trans hh st)
theorem c_tgV {g : TG} {d : D} {S2 : List Sl} (h : VlD K C te S d) (tg : TgD K C g d S S2) (n : N S2) : CmD K C (tAsg te g) S N R Bk Ct := c_tg h fun x e => by rw [e]; exact ⟨S2, tg, n⟩
/-- for -/
theorem c_for {wi : TI} {g : TG} {tb : TS} {items : List D} (hI : ItD K C wi S items) (Inv : Nat → List Sl → Prop) (h0 : Inv 0 S)
    (hs : ∀ i d S1, items[i]? = some d → Inv i S1 → ∃ S2, TgD K C g d S1 S2 ∧ CmD K C tb S2 (Inv (i + 1)) R N (Inv (i + 1))) (hd : ∀ S1, Inv items.length S1 → N S1) : CmD K C (tFor wi g tb) S N R Bk Ct := fun Z B H σ E hh nn r b c => by
  refine hI Z B H σ _ hh fun J B0 H0 P0 ok => ?_
  have hh0 := hh.post P0
  refine ⟨fun i m σ1 H1 => i + m = items.length ∧ ∃ S1 B1, Inv i S1 ∧ Step K C Z B0 H0 σ S B1 H1 σ1 S1, ⟨items.length, by omega, S, B0, h0, .refl hh0⟩, ?_⟩
  rintro i m σ1 H1 ⟨em, S1, B1, hi, st⟩
  obtain ⟨k1, k2⟩ := ok i B1 H1 st.sub st.hold.sub st.hold.str
  have st0 := (P0.step hh).trans hh st
  by_cases hlt : i < items.length
  · right
    have e : items[i]? = some items[i] := List.getElem?_eq_getElem hlt
    obtain ⟨g1, g2⟩ := k2 _ e
    refine ⟨g1, fun σ' H' => ∃ S' B', Inv (i + 1) S' ∧ Step K C Z B0 H0 σ S B' H' σ' S', ?_, ?_⟩
    · rintro σ' H' ⟨S', B', a, b⟩
      exact ⟨m - 1, by omega, by omega, S', B', a, b⟩
    · intro x H' y
      obtain ⟨B', P', rp⟩ := g2 x H' y
      obtain ⟨S2, tg, cm⟩ := hs i _ S1 e hi
      have st1 := st.trans hh0 (P'.step st.hold)
      refine tg Z B' H' σ1 x _ st1.hold rp fun σ2 st2 => ?_
      have st3 := st1.trans hh0 st2
      have st4 := (P0.step hh).trans hh st3
      exact cm Z B' H' σ2 _ st2.hold (fun S' σ' B2 H2 p' st' => ⟨S', B2, p', st3.trans hh0 st'⟩) (fun v d B2 H2 p' f q => r v d B2 H2 p' (st4.fin hh f) q)
        (fun S' σ' B2 H2 p' st' => nn S' σ' B2 H2 p' (st4.trans hh st')) (fun S' σ' B2 H2 p' st' => ⟨S', B2, p', st3.trans hh0 st'⟩)
  · have e : i = items.length := by omega
    exact .inl ⟨k1 e, nn S1 σ1 B1 H1 (hd S1 (e ▸ hi)) st0⟩
/-- while, with a measure -/
theorem c_while {tc : TT} {tb : TS} (Inv : Nat → List Sl → Prop) (m0 : Nat) (h0 : Inv m0 S)
    (hs : ∀ m S1, Inv m S1 → ∃ Pb : Bool → Prop, TsD K C tc S1 Pb ∧ (Pb true → CmD K C tb S1 (fun S2 => ∃ m', m' < m ∧ Inv m' S2) R N (fun S2 => ∃ m', m' < m ∧ Inv m' S2)) ∧ (Pb false → N S1)) :
    CmD K C (tWhile tc tb) S N R Bk Ct := fun Z B H σ E hh nn r b c => by
  refine ⟨fun m σ1 H1 => ∃ S1 B1, Inv m S1 ∧ Step K C Z B H σ S B1 H1 σ1 S1, ⟨m0, S, B, h0, .refl hh⟩, ?_⟩
  rintro m σ1 H1 ⟨S1, B1, hi, st⟩
  obtain ⟨Pb, ht, hb, he⟩ := hs m S1 hi
  refine ht Z B1 H1 σ1 _ st.hold fun x B2 H2 px P2 => ?_
  have st2 := st.trans hh (P2.step st.hold)
  cases x with
  | false => exact iteF (nn S1 σ1 B2 H2 (he px) st2)
  | true =>
    refine iteT ⟨fun σ' H' => ∃ m', m' < m ∧ ∃ S' B', Inv m' S' ∧ Step K C Z B H σ S B' H' σ' S', fun σ' H' ⟨m', l, z⟩ => ⟨m', l, z⟩, ?_⟩
    exact hb px Z B2 H2 σ1 _ st2.hold (fun S' σ' B' H' ⟨m', l, p'⟩ st' => ⟨m', l, S', B', p', st2.trans hh st'⟩) (fun v d B' H' p' f q => r v d B' H' p' (st2.fin hh f) q)
      (fun S' σ' B' H' p' st' => nn S' σ' B' H' p' (st2.trans hh st')) (fun S' σ' B' H' ⟨m', l, p'⟩ st' => ⟨m', l, S', B', p', st2.trans hh st'⟩)
/-! what is walked -/
theorem it_list {tl : TE} {ds : List D} (h : VlD K C tl S (.lst ds)) : ItD K C (iList K tl) S ds := fun Z B H σ R hh q => by
  refine h Z B H σ _ hh fun v d B1 H1 p P1 r1 => ?_
  subst p
  cases r1 with
  | @lst a vs _ ha rr =>
    have ha1 : SqL K H1 a vs := SqL.of (P1.sub2 _ _ ha)
    refine ⟨a, rfl, ⟨vs, ha1⟩, q _ B1 H1 P1 fun i B2 H2 s1 s2 str => ?_⟩
    have hq : H2 a = some (.lst vs) := s2 _ _ (s1 _ _ ha)
    have hS : SqL K H2 a vs := SqL.of hq
    refine ⟨fun e => ⟨vs, hS, by rw [rr.length]; omega⟩, fun d e => ?_⟩
    obtain ⟨x, ex, rx⟩ := rr.get e
    refine ⟨⟨vs, x, hS, ex⟩, ?_⟩
    rintro y H' ⟨rfl, hy⟩
    have e2 := hy vs hS
    rw [ex] at e2
    cases e2
    exact ⟨B2, ⟨.refl B2, s2, .refl, .refl, str⟩, rx.mono s1⟩
theorem it_tup {tl : TE} {ds : List D} (h : VlD K C tl S (.tup ds)) : ItD K C (iTup K tl) S ds := fun Z B H σ R hh q => by
  refine h Z B H σ _ hh fun v d B1 H1 p P1 r1 => ?_
  subst p
  cases r1 with
  | @tup a vs _ ha rr =>
    refine ⟨a, rfl, ⟨vs, sameT P1.sub2 ha⟩, q _ B1 H1 P1 fun i B2 H2 s1 s2 str => ?_⟩
    have hS : SqT K H2 a vs := sameT s2 (sameT s1 ha)
    refine ⟨fun e => ⟨vs, hS, by rw [rr.length]; omega⟩, fun d e => ?_⟩
    obtain ⟨x, ex, rx⟩ := rr.get e
    refine ⟨⟨vs, x, hS, ex⟩, ?_⟩
    rintro y H' ⟨rfl, hy⟩
    have e2 := hy vs hS
    rw [ex] at e2
    cases e2
    exact ⟨B2, ⟨.refl B2, s2, .refl, .refl, str⟩, rx.mono s1⟩
def rngD (lo : Int) (n : Nat) : List D := (List.range n).map fun (k : Nat) => .int (lo + (k : Int))
theorem rngD_len {lo : Int} {n : Nat} : (rngD lo n).length = n := by unfold rngD; rw [List.length_map, List.length_range]
theorem rngD_get {lo : Int} {n i : Nat} {d : D} (h : (rngD lo n)[i]? = some d) : i < n ∧ d = .int (lo + (i : Int)) := by
  unfold rngD at h
  rw [List.getElem?_map] at h
  by_cases hl : i < n
  · rw [List.getElem?_range hl] at h
    exact ⟨hl, (Option.some.inj h).symm⟩
  · rw [List.getElem?_eq_none (by rw [List.length_range]; omega)] at h; cases h
theorem itr_ok {Z : Zt} {B : Hp} {lo : Int} {n : Nat} : ItOk K C Z (Itr lo n) B (rngD lo n) := fun i B1 H1 s1 s2 str => by
  refine ⟨fun e => by rw [rngD_len] at e; show n ≤ i; omega, fun d e => ?_⟩
  obtain ⟨hl, ed⟩ := rngD_get e
  refine ⟨hl, ?_⟩
  rintro x H' ⟨rfl, rfl⟩
  rw [ed]
  exact ⟨B1, ⟨.refl B1, s2, .refl, .refl, str⟩, .int _⟩
theorem it_rng1 {te : TE} {n : Int} (h : VlD K C te S (.int n)) (h1 : -(2 ^ 62) ≤ n) (h2 : n < 2 ^ 62) : ItD K C (iRng1 (tCons te tNil)) S (rngD 0 n.toNat) := fun Z B H σ R hh q => by
  refine h Z B H σ _ hh fun v d B1 H1 p P1 r1 => ?_
  subst p
  cases r1
  exact ⟨n, rfl, h1, h2, q _ B1 H1 P1 itr_ok⟩
theorem it_rng2 {te tf : TE} {m n : Int} (h : VlD K C te S (.int m)) (h' : VlD K C tf S (.int n)) (h1 : -(2 ^ 62) ≤ m) (h2 : m < 2 ^ 62) (h3 : -(2 ^ 62) ≤ n) (h4 : n < 2 ^ 62) : ItD K C (iRng2 (tCons te (tCons tf tNil))) S (rngD m (n - m).toNat) := fun Z B H σ R hh q => by
  refine h Z B H σ _ hh fun v d B1 H1 p P1 r1 => ?_
  refine h' Z B1 H1 σ _ (hh.post P1) fun v' d' B2 H2 p' P2 r2 => ?_
  subst p p'
  cases r1
  cases r2
  exact ⟨m, n, rfl, ⟨h1, h2, h3, h4⟩, q _ B2 H2 (P1.trans hh.str P2) itr_ok⟩
theorem ite_ok {Z : Zt} {B : Hp} {a : Addr} {vs : List V} {ds : List D} (ha : B a = some (.lst vs)) (rr : Reps K C B vs ds) : ItOk K C Z (Ite K a) B (ds.mapIdx fun i d => .tup [.int (i : Int), d]) := fun i B2 H2 s1 s2 str => by
  have hq : H2 a = some (.lst vs) := s2 _ _ (s1 _ _ ha)
  have hS : SqL K H2 a vs := SqL.of hq
  refine ⟨fun e => ⟨vs, hS, by rw [rr.length]; rw [List.length_mapIdx] at e; omega⟩, fun d e => ?_⟩
  rw [List.getElem?_mapIdx] at e
  cases e1 : ds[i]? with
  | none => rw [e1] at e; cases e
  | some d1 =>
    rw [e1] at e
    cases e
    obtain ⟨x, ex, rx⟩ := rr.get e1
    refine ⟨⟨vs, x, hS, ex⟩, ?_⟩
    rintro y H' ⟨T, x1, rfl, hT, rfl, hy⟩
    have e2 := hy vs hS
    rw [ex] at e2
    cases e2
    have P := Post.new (K := K) (Z := Z) (o := .tup [.int (i : Int), x]) s2 str hT
    exact ⟨_, P, .tup (SqT.of upd_same) (.cons (.int _) (.cons ((rx.mono s1).mono P.sub) .nil))⟩
theorem it_enum {tl : TE} {ds : List D} (h : VlD K C tl S (.lst ds)) : ItD K C (iEnum K (tCons tl tNil)) S (ds.mapIdx fun i d => .tup [.int (i : Int), d]) := fun Z B H σ R hh q => by
  refine h Z B H σ _ hh fun v d B1 H1 p P1 r1 => ?_
  subst p
  cases r1 with
  | @lst a vs _ ha rr => exact ⟨a, vs, rfl, SqL.of (P1.sub2 _ _ ha), q _ B1 H1 P1 (ite_ok ha rr)⟩
end
/-! ### comprehensions -/
section
variable {K : PySem.W.Frag} {C : Addr} {Z : Zt} {B H : Hp} {σ : L2.St} {S : List Sl}
theorem Holds.wipe1 (h : Holds K C Z B H σ S) {j : Nat} (hj : S[j]? = some .un) : Holds K C Z B H (σ.set j none) S := by
  refine ⟨by rw [List.length_set]; exact h.len, h.sub, h.str, fun k t e => ?_, fun k l t u hkl e1 e2 o1 o2 => ?_⟩
  · by_cases hk : k = j
    · subst hk; rw [hj] at e; cases e; trivial
    · rw [List.getElem?_set_ne (Ne.symm hk)]; exact h.slot k t e
  · have a : k ≠ j := fun z => by subst z; rw [hj] at e1; cases e1; cases o1
    have b : l ≠ j := fun z => by subst z; rw [hj] at e2; cases e2; cases o2
    rw [List.getElem?_set_ne (Ne.symm a), List.getElem?_set_ne (Ne.symm b)]
    exact h.apart k l t u hkl e1 e2 o1 o2
/-- a list that is new and that none else knows -/
def EvN (K : PySem.W.Frag) (C : Addr) (te : TE) (S : List Sl) (P : List D → Prop) : Prop :=
  ∀ Z B H σ (Q : VK), Holds K C Z B H σ S → (∀ p acc ws B' H', P acc → Post K Z B H B' H' → ¬ Zat Z p → B' p = none → H p = none → H' p = some (.lst ws) → Reps K C B' ws acc → Q (.ref p) H') → te σ H Q
theorem EvN.mono {te : TE} {P P' : List D → Prop} (h : EvN K C te S P) (k : ∀ d, P d → P' d) : EvN K C te S P' :=
  fun Z B H σ Q hh q => h Z B H σ Q hh fun p acc ws B' H' pp => q p acc ws B' H' (k acc pp)
/-- .. may be known -/
theorem EvN.ev {te : TE} {P : List D → Prop} (h : EvN K C te S P) : EvD K C te S (fun d => ∃ acc, d = .lst acc ∧ P acc) := fun Z B H σ Q hh q => by
  refine h Z B H σ Q hh fun p acc ws B1 H1 ha P1 nz nD hD eD rr => ?_
  have smB : Same B1 (upd B1 p (.lst ws)) := fun x u e => by rw [upd_ne (ne_of_none e nD)]; exact e
  refine q (.ref p) (.lst acc) (upd B1 p (.lst ws)) H1 ⟨acc, rfl, ha⟩ ?_ (.lst upd_same (rr.mono smB))
  refine ⟨P1.sub.trans smB, fun a u ea => ?_, P1.kp, fun a u ea => ?_, ⟨fun x l ns ez => ?_⟩⟩
  · by_cases z : a = p
    · subst z; rw [upd_same] at ea; cases ea; exact eD
    · rw [upd_ne z] at ea; exact P1.sub2 a u ea
  · by_cases z : a = p
    · subst z; exact .inr hD
    · rw [upd_ne z] at ea; exact P1.fre a u ea
  · obtain ⟨c1, c2, a', b', c', c3⟩ := P1.str.ok x l ns ez
    have ne : x ≠ p := fun z => nz ⟨l, ns, by rw [ez, z]⟩
    exact ⟨by rw [upd_ne ne]; exact c1, Same.seq smB c2, a', b', c', c3⟩
theorem Step.set_own (h : Holds K C Z B H σ S) {B1 H1 : Hp} {i : Nat} {p : Addr} {acc : List D} {ws : List V} (P : Post K Z B H B1 H1) (nz : ¬ Zat Z p) (nB : B1 p = none) (nH : H p = none) (e : H1 p = some (.lst ws)) (r : Reps K C B1 ws acc) :
    Step K C Z B H σ S B1 H1 (σ.set i (some (.ref p))) (S.set i (.ml acc)) := by
  have ne : ∀ (j : Nat) (t : Sl), S[j]? = some t → t.own = true → σ[j]? ≠ some (some (.ref p)) := fun j t e o z => by
    obtain ⟨_, _, u, q⟩ := h.ownz ⟨j, t, e, o, z⟩
    rw [nH] at q; cases q
  refine ⟨P.sub, fun a u e1 z n => ⟨P.kp a u e1 z, fun q => ?_⟩, fun a u e1 => (P.fre a u e1).elim .inl fun q => .inr (.inl q), (h.post P).set (s := .ml acc) ⟨p, ws, rfl, nB, nz, e, r⟩ fun _ a ea j t hj e1 o => by cases ea; exact ne j t e1 o⟩
  obtain ⟨j, t, e2, o2, es⟩ := q
  by_cases hj : j = i
  · subst hj
    by_cases hl : j < σ.length
    · rw [List.getElem?_set_self hl] at es
      cases es
      rw [nH] at e1; cases e1
    · rw [List.getElem?_eq_none (by rw [List.length_set]; omega)] at es; cases es
  · rw [List.getElem?_set_ne (Ne.symm hj)] at e2 es
    exact n ⟨j, t, e2, o2, es⟩
/-- x = a new list, which stays own -/
theorem c_own {te : TE} {P : List D → Prop} {i : Nat} {N Bk Ct : List Sl → Prop} {R : D → Prop} (h : EvN K C te S P) (k : ∀ acc, P acc → N (S.set i (.ml acc))) : CmD K C (tAsg te (gName i)) S N R Bk Ct := fun Z B H σ E hh nn r b c =>
  h Z B H σ _ hh fun p acc ws B1 H1 ha P1 nz nB nH e rr => nn _ _ B1 H1 (k acc ha) (Step.set_own hh P1 nz nB nH e rr)
/-- the heart of a comprehension: vs are wiped, the target sets slots in vs alone -/
theorem n_lc {wi : TI} {g : TG} {tt : TT} {te : TE} {vs : List Nat} {items : List D} (hI : ItD K C wi S items)
    (hw : ∀ Z B H σ, Holds K C Z B H σ S → Holds K C Z B H (wipe σ vs) S)
    (Acc : Nat → List D → Prop) (h0 : Acc 0 [])
    (hs : ∀ i d acc, items[i]? = some d → Acc i acc → ∃ S2, (∀ Z B H σ v (Q : L2.St → Hp → Prop), Holds K C Z B H (wipe σ vs) S → Rep K C B v d → (∀ σ', wipe σ' vs = wipe σ vs → Holds K C Z B H σ' S2 → Q σ' H) → g v (wipe σ vs) H Q) ∧
      ∃ Pb, TsD K C tt S2 Pb ∧ (Pb true → EvD K C te S2 (fun y => Acc (i + 1) (acc ++ [y]))) ∧ (Pb false → Acc (i + 1) acc)) (hn : items.length ≤ 1000000) :
    EvN K C (tLc wi g tt te vs) S (fun acc => Acc items.length acc ∧ acc.length ≤ items.length) := fun Z B H σ Q hh q => by
  refine hI Z B H σ _ hh fun J B0 H0 P0 ok => ?_
  have hh0 := hh.post P0
  intro Dl hD
  have nzD : ¬ Zat Z Dl := fun z => by
    obtain ⟨u, e⟩ := hh0.str.some z
    rw [hD] at e; cases e
  have smD : Same H0 (upd H0 Dl (.lst [])) := fun x u e => by rw [upd_ne (ne_of_none e hD)]; exact e
  refine ⟨fun i m H1 => i + m = items.length ∧ ∃ B1 acc ws, Acc i acc ∧ acc.length ≤ i ∧ Post K Z B0 H0 B1 H1 ∧ B1 Dl = none ∧ H1 Dl = some (.lst ws) ∧ Reps K C B1 ws acc,
    ⟨items.length, by omega, B0, [], [], h0, Nat.le_refl _, .heap hh0.sub hh0.str smD, hh0.sub.free hD, upd_same, .nil⟩, ?_⟩
  rintro i m H1 ⟨em, B1, acc, ws, ha, hal, P1, nD, eD, rr⟩
  obtain ⟨k1, k2⟩ := ok i B1 H1 P1.sub P1.sub2 P1.str
  by_cases hlt : i < items.length
  · right
    have e : items[i]? = some items[i] := List.getElem?_eq_getElem hlt
    obtain ⟨g1, g2⟩ := k2 _ e
    refine ⟨g1, fun H' => ∃ B' acc ws, Acc (i + 1) acc ∧ acc.length ≤ i + 1 ∧ Post K Z B0 H0 B' H' ∧ B' Dl = none ∧ H' Dl = some (.lst ws) ∧ Reps K C B' ws acc, ?_, ?_⟩
    · rintro H' ⟨B', acc', ws', z⟩
      exact ⟨m - 1, by omega, by omega, B', acc', ws', z⟩
    · intro x H' y
      obtain ⟨B', P', rp⟩ := g2 x H' y
      obtain ⟨S2, tg, Pb, ht, hy, hno⟩ := hs i _ acc e ha
      have keepD : ∀ {Bx Hx By Hy : Hp}, Post K Z Bx Hx By Hy → Bx Dl = none → Hx Dl = some (.lst ws) → By Dl = none ∧ Hy Dl = some (.lst ws) := fun {Bx Hx By Hy} P a b => by
        refine ⟨?_, P.kp _ _ b nzD⟩
        cases z : By Dl with
        | none => rfl
        | some u =>
          rcases P.fre Dl u z with q | q
          · rw [a] at q; cases q
          · rw [b] at q; cases q
      have P2 : Post K Z B0 H0 B' H' := P1.trans hh0.str P'
      obtain ⟨nD', eD'⟩ := keepD P' nD eD
      have hol : Holds K C Z B' H' (wipe σ vs) S := hw Z B' H' σ (hh0.post P2)
      refine tg Z B' H' σ x _ hol rp fun σ2 wq hol2 => ⟨wq, ?_⟩
      refine ht Z B' H' σ2 _ hol2 fun b B3 H3 pb P3 => ?_
      obtain ⟨nD3, eD3⟩ := keepD P3 nD' eD'
      have P03 := P2.trans hh0.str P3
      cases b with
      | false => exact iteF ⟨B3, acc, ws, hno pb, by omega, P03, nD3, eD3, (rr.mono P'.sub).mono P3.sub⟩
      | true =>
        refine iteT ?_
        refine hy pb Z B3 H3 σ2 _ (hol2.post P3) fun v d B4 H4 pd P4 r4 => ?_
        obtain ⟨nD4, eD4⟩ := keepD P4 nD3 eD3
        have P04 := P03.trans hh0.str P4
        have rr4 := ((rr.mono P'.sub).mono P3.sub).mono P4.sub
        refine ⟨ws, eD4, ?_, B4, acc ++ [d], ws ++ [v], pd, by rw [List.length_append, List.length_singleton]; omega, ?_, nD4, upd_same, rr4.append (.one r4)⟩
        · rw [rr4.length]
          exact Nat.lt_of_le_of_lt (Nat.le_trans hal (by omega : i ≤ 1000000)) (by decide)
        · refine ⟨P04.sub, fun a u ea => ?_, fun a u ea nz => ?_, P04.fre, ⟨fun p l ns ez => ?_⟩⟩
          · have ne : a ≠ Dl := fun z => by rw [z, nD4] at ea; cases ea
            rw [upd_ne ne]; exact P04.sub2 a u ea
          · rw [upd_ne (ne_of_none ea hD)]; exact P04.kp a u ea nz
          · obtain ⟨c1, c2, a', b', c', c3⟩ := P04.str.ok p l ns ez
            have ne : p ≠ Dl := fun z => nzD ⟨l, ns, by rw [ez, z]⟩
            exact ⟨c1, c2, a', b', c', by rw [upd_ne ne]; exact c3⟩
  · have e : i = items.length := by omega
    refine .inl ⟨k1 e, ?_⟩
    subst e
    have nH : H Dl = none := by
      cases z : H Dl with
      | none => rfl
      | some u => rw [P0.kp Dl u z nzD] at hD; cases hD
    exact q Dl acc ws B1 H1 ⟨ha, hal⟩ (P0.trans hh.str P1) nzD nD nH eD rr
theorem e_lc {wi : TI} {g : TG} {tt : TT} {te : TE} {vs : List Nat} {items : List D} (hI : ItD K C wi S items)
    (hw : ∀ Z B H σ, Holds K C Z B H σ S → Holds K C Z B H (wipe σ vs) S)
    (Acc : Nat → List D → Prop) (h0 : Acc 0 [])
    (hs : ∀ i d acc, items[i]? = some d → Acc i acc → ∃ S2, (∀ Z B H σ v (Q : L2.St → Hp → Prop), Holds K C Z B H (wipe σ vs) S → Rep K C B v d → (∀ σ', wipe σ' vs = wipe σ vs → Holds K C Z B H σ' S2 → Q σ' H) → g v (wipe σ vs) H Q) ∧
      ∃ Pb, TsD K C tt S2 Pb ∧ (Pb true → EvD K C te S2 (fun y => Acc (i + 1) (acc ++ [y]))) ∧ (Pb false → Acc (i + 1) acc)) (hn : items.length ≤ 1000000) :
    EvD K C (tLc wi g tt te vs) S (fun d => ∃ acc, d = .lst acc ∧ Acc items.length acc ∧ acc.length ≤ items.length) := (n_lc hI hw Acc h0 hs hn).ev
theorem wipe_one (σ : L2.St) (j : Nat) : wipe σ [j] = σ.set j none := rfl
/-- [e for x in .. if t] -/
theorem e_lc1 {wi : TI} {tt : TT} {te : TE} {j : Nat} {items : List D} (hI : ItD K C wi S items) (hj : S[j]? = some .un) (Acc : Nat → List D → Prop) (h0 : Acc 0 [])
    (hs : ∀ i d acc, items[i]? = some d → Acc i acc → ∃ Pb, TsD K C tt (S.set j (.im d)) Pb ∧ (Pb true → EvD K C te (S.set j (.im d)) (fun y => Acc (i + 1) (acc ++ [y]))) ∧ (Pb false → Acc (i + 1) acc)) (hn : items.length ≤ 1000000) :
    EvD K C (tLc wi (gName j) tt te [j]) S (fun d => ∃ acc, d = .lst acc ∧ Acc items.length acc ∧ acc.length ≤ items.length) :=
  e_lc (vs := [j]) hI (fun Z B H σ h => h.wipe1 hj) Acc h0 (fun i d acc e ha => ⟨S.set j (.im d), fun Z B H σ v Q h r q => q _ (by
    show ((σ.set j none).set j (some v)).set j none = σ.set j none
    rw [List.set_set, List.set_set]) (Step.set_im h r).hold, hs i d acc e ha⟩) hn
theorem n_lc1 {wi : TI} {tt : TT} {te : TE} {j : Nat} {items : List D} (hI : ItD K C wi S items) (hj : S[j]? = some .un) (Acc : Nat → List D → Prop) (h0 : Acc 0 [])
    (hs : ∀ i d acc, items[i]? = some d → Acc i acc → ∃ Pb, TsD K C tt (S.set j (.im d)) Pb ∧ (Pb true → EvD K C te (S.set j (.im d)) (fun y => Acc (i + 1) (acc ++ [y]))) ∧ (Pb false → Acc (i + 1) acc)) (hn : items.length ≤ 1000000) :
    EvN K C (tLc wi (gName j) tt te [j]) S (fun acc => Acc items.length acc ∧ acc.length ≤ items.length) :=
  n_lc (vs := [j]) hI (fun Z B H σ h => h.wipe1 hj) Acc h0 (fun i d acc e ha => ⟨S.set j (.im d), fun Z B H σ v Q h r q => q _ (by
    show ((σ.set j none).set j (some v)).set j none = σ.set j none
    rw [List.set_set, List.set_set]) (Step.set_im h r).hold, hs i d acc e ha⟩) hn
/-- [e for x, y in .. if t] -/
theorem e_lc2 {wi : TI} {tt : TT} {te : TE} {j k : Nat} {items : List D} (hI : ItD K C wi S items) (hj : S[j]? = some .un) (hk : S[k]? = some .un) (hjk : j ≠ k) (Acc : Nat → List D → Prop) (h0 : Acc 0 [])
    (hs : ∀ i d acc, items[i]? = some d → Acc i acc → ∃ x y, d = .tup [x, y] ∧ ∃ Pb, TsD K C tt ((S.set j (.im x)).set k (.im y)) Pb ∧ (Pb true → EvD K C te ((S.set j (.im x)).set k (.im y)) (fun y => Acc (i + 1) (acc ++ [y]))) ∧ (Pb false → Acc (i + 1) acc)) (hn : items.length ≤ 1000000) :
    EvD K C (tLc wi (gTup K 2 (gCons (gName j) (gCons (gName k) gNil))) tt te [j, k]) S (fun d => ∃ acc, d = .lst acc ∧ Acc items.length acc ∧ acc.length ≤ items.length) :=
  e_lc (vs := [j, k]) hI (fun Z B H σ h => (h.wipe1 hk).wipe1 hj) Acc h0 (fun i d acc e ha => by
    obtain ⟨x, y, rfl, z⟩ := hs i d acc e ha
    refine ⟨_, fun Z B H σ v Q h r q => ?_, z⟩
    cases r with
    | tup hT rr =>
      cases rr with
      | cons r1 rr =>
        cases rr with
        | cons r2 rr =>
          cases rr
          refine ⟨_, _, rfl, sameT h.sub hT, rfl, _, _, rfl, _, _, rfl, rfl, ?_⟩
          have s1 := Step.set_im (i := j) h r1
          refine q _ ?_ (s1.trans h (Step.set_im s1.hold r2)).hold
          show ((((((σ.set k none).set j none).set j (some _)).set k (some _)).set k none).set j none) = (σ.set k none).set j none
          apply List.ext_getElem?
          intro n
          by_cases hnk : n = k
          · subst hnk
            simp [List.getElem?_set]
          · by_cases hnj : n = j
            · subst hnj
              simp [List.getElem?_set, Ne.symm hnk, hnk, Ne.symm hjk]
            · simp [List.getElem?_set, hnk, hnj, Ne.symm hnk, Ne.symm hnj]) hn
end
end Dl
end
section
set_option Elab.async false
set_option autoImplicit false
set_option linter.all false
set_option maxRecDepth 100000
set_option maxHeartbeats 4000000
/-! Operations on data, built-ins, calls of own defs. -/
namespace Dl
open PySem L2
section
variable {K : PySem.W.Frag} {C : Addr}
/-! ### ints, texts -/
theorem o_I0 {g : Int → Int → V} {a b : Int} {z : D} (h : ∀ B, Rep K C B (g a b) z) : OpD K C (rI0 g) (.int a) (.int b) (fun d => d = z) := fun Z B H vx vy Q sm str r1 r2 q => by
  cases r1
  cases r2
  exact ⟨a, b, rfl, rfl, q _ _ B H rfl ⟨.refl B, sm, .refl, .refl, str⟩ (h B)⟩
theorem o_I {c : Int → Int → Prop} {g : Int → Int → V} {a b : Int} {z : D} (hc : c a b) (h : ∀ B, Rep K C B (g a b) z) : OpD K C (rI c g) (.int a) (.int b) (fun d => d = z) := fun Z B H vx vy Q sm str r1 r2 q => by
  cases r1
  cases r2
  exact ⟨a, b, rfl, rfl, hc, q _ _ B H rfl ⟨.refl B, sm, .refl, .refl, str⟩ (h B)⟩
abbrev rAddI : R2 := rI0 fun i j => .int (i + j)
abbrev rSubI : R2 := rI0 fun i j => .int (i - j)
abbrev rLtI : R2 := rI0 fun i j => .bl (decide (i < j))
abbrev rLeI : R2 := rI0 fun i j => .bl (decide (i ≤ j))
abbrev rGtI : R2 := rI0 fun i j => .bl (decide (j < i))
abbrev rGeI : R2 := rI0 fun i j => .bl (decide (j ≤ i))
abbrev rModI : R2 := rI (fun _ j => 0 < j) fun i j => .int (i % j)
abbrev rDivI : R2 := rI CDiv fun i j => .int (i / j)
theorem o_add {a b : Int} : OpD K C rAddI (.int a) (.int b) (fun d => d = .int (a + b)) := o_I0 fun _ => .int _
theorem o_sub {a b : Int} : OpD K C rSubI (.int a) (.int b) (fun d => d = .int (a - b)) := o_I0 fun _ => .int _
theorem o_lt {a b : Int} : OpD K C rLtI (.int a) (.int b) (fun d => d = .bl (decide (a < b))) := o_I0 fun _ => .bl _
theorem o_le {a b : Int} : OpD K C rLeI (.int a) (.int b) (fun d => d = .bl (decide (a ≤ b))) := o_I0 fun _ => .bl _
theorem o_gt {a b : Int} : OpD K C rGtI (.int a) (.int b) (fun d => d = .bl (decide (b < a))) := o_I0 fun _ => .bl _
theorem o_ge {a b : Int} : OpD K C rGeI (.int a) (.int b) (fun d => d = .bl (decide (b ≤ a))) := o_I0 fun _ => .bl _
theorem o_mod {a b : Int} (h : 0 < b) : OpD K C rModI (.int a) (.int b) (fun d => d = .int (a % b)) := o_I h fun _ => .int _
theorem o_div {a b : Int} (h : 0 < b) (h2 : b < 1073741824) : OpD K C rDivI (.int a) (.int b) (fun d => d = .int (a / b)) := o_I (show CDiv a b from ⟨h, h2⟩) fun _ => .int _
theorem v_mul {S : List Sl} {ta tb : TE} {a b : Int} (ha : VlD K C ta S (.int a)) (hb : VlD K C tb S (.int b)) (h1 : -(2 ^ 64) < a) (h2 : a < 2 ^ 64) : VlD K C (tMul ta tb) S (.int (a * b)) := fun Z B H σ Q hh q => by
  refine ha Z B H σ _ hh fun v x B1 H1 p P1 r1 => ?_
  refine hb Z B1 H1 σ _ (hh.post P1) fun w y B2 H2 p2 P2 r2 => ?_
  subst p p2
  cases r1
  cases r2
  exact ⟨a, b, rfl, rfl, ⟨h1, h2⟩, q _ _ B2 H2 rfl (P1.trans hh.str P2) (.int _)⟩
theorem v_neg {S : List Sl} {ta : TE} {a : Int} (ha : VlD K C ta S (.int a)) : VlD K C (tUn (rU fun i => .int (-i)) ta) S (.int (-a)) := fun Z B H σ Q hh q => by
  refine ha Z B H σ _ hh fun v x B1 H1 p P1 r1 => ?_
  subst p
  cases r1
  exact ⟨a, rfl, q _ _ B1 H1 rfl P1 (.int _)⟩
/-- a scalar as a value -/
inductive Sc : V → D → Prop
  | non : Sc .non .non
  | bl (b : Bool) : Sc (.bl b) (.bl b)
  | int (i : Int) : Sc (.int i) (.int i)
  | str (s : Str) : Sc (.str s) (.str s)
theorem Sc.inj {B : Hp} {v w : V} {d : D} (h : Sc v d) (r : Rep K C B w d) : w = v := by
  cases h <;> cases r <;> rfl
theorem o_eqS {x y : D} {v w : V} (hx : Sc v x) (hy : Sc w y) (hs : scal v w = true) {b : Bool} (hb : decide (v = w) = b) : OpD K C rEq x y (fun d => d = .bl b) := fun Z B H vx vy Q sm str r1 r2 q => by
  have e1 := hx.inj r1
  have e2 := hy.inj r2
  subst e1 e2
  refine ⟨hs, ?_⟩
  rw [hb]
  exact q _ _ B H rfl ⟨.refl B, sm, .refl, .refl, str⟩ (.bl b)
theorem o_neS {x y : D} {v w : V} (hx : Sc v x) (hy : Sc w y) (hs : scal v w = true) {b : Bool} (hb : (!decide (v = w)) = b) : OpD K C rNe x y (fun d => d = .bl b) := fun Z B H vx vy Q sm str r1 r2 q => by
  have e1 := hx.inj r1
  have e2 := hy.inj r2
  subst e1 e2
  refine ⟨hs, ?_⟩
  rw [hb]
  exact q _ _ B H rfl ⟨.refl B, sm, .refl, .refl, str⟩ (.bl b)
theorem decII (a b : Int) : decide (V.int a = V.int b) = decide (a = b) := by
  by_cases h : a = b
  · subst h; simp
  · rw [decide_eq_false h, decide_eq_false (fun z => h (V.int.inj z))]
theorem decSS (a b : Str) : decide (V.str a = V.str b) = decide (a = b) := by
  by_cases h : a = b
  · subst h; simp
  · rw [decide_eq_false h, decide_eq_false (fun z => h (V.str.inj z))]
theorem o_eqII {a b : Int} : OpD K C rEq (.int a) (.int b) (fun d => d = .bl (decide (a = b))) := o_eqS (.int a) (.int b) rfl (decII a b)
theorem o_eqSS {a b : Str} : OpD K C rEq (.str a) (.str b) (fun d => d = .bl (decide (a = b))) := o_eqS (.str a) (.str b) rfl (decSS a b)
theorem o_eqIS {a : Int} {b : Str} : OpD K C rEq (.int a) (.str b) (fun d => d = .bl false) := o_eqS (.int a) (.str b) rfl (decide_eq_false fun z => by cases z)
theorem o_eqSI {a : Str} {b : Int} : OpD K C rEq (.str a) (.int b) (fun d => d = .bl false) := o_eqS (.str a) (.int b) rfl (decide_eq_false fun z => by cases z)
theorem o_neII {a b : Int} : OpD K C rNe (.int a) (.int b) (fun d => d = .bl (!decide (a = b))) := o_neS (.int a) (.int b) rfl (by rw [decII])
theorem o_neSS {a b : Str} : OpD K C rNe (.str a) (.str b) (fun d => d = .bl (!decide (a = b))) := o_neS (.str a) (.str b) rfl (by rw [decSS])
theorem o_neIS {a : Int} {b : Str} : OpD K C rNe (.int a) (.str b) (fun d => d = .bl true) := o_neS (.int a) (.str b) rfl (by rw [decide_eq_false fun z => by cases z]; rfl)
theorem o_neSI {a : Str} {b : Int} : OpD K C rNe (.str a) (.int b) (fun d => d = .bl true) := o_neS (.str a) (.int b) rfl (by rw [decide_eq_false fun z => by cases z]; rfl)
theorem v_isN {S : List Sl} {ta : TE} {d : D} {b : Bool} (ha : VlD K C ta S d) (hb : ∀ B v, Rep K C B v d → decide (v = .non) = b) : VlD K C (tIsN ta) S (.bl b) := fun Z B H σ Q hh q => by
  refine ha Z B H σ _ hh fun v x B1 H1 p P1 r1 => ?_
  subst p
  show Q (.bl (decide (v = .non))) H1
  rw [hb B1 v r1]
  exact q _ _ B1 H1 rfl P1 (.bl b)
theorem v_notN {S : List Sl} {ta : TE} {d : D} {b : Bool} (ha : VlD K C ta S d) (hb : ∀ B v, Rep K C B v d → (!decide (v = .non)) = b) : VlD K C (tNotN ta) S (.bl b) := fun Z B H σ Q hh q => by
  refine ha Z B H σ _ hh fun v x B1 H1 p P1 r1 => ?_
  subst p
  show Q (.bl (!decide (v = .non))) H1
  rw [hb B1 v r1]
  exact q _ _ B1 H1 rfl P1 (.bl b)
/-! ### tuples, lists -/
theorem o_cat {xs ys : List D} (hl : xs.length + ys.length ≤ 16777216) : OpD K C (rCatA K) (.tup xs) (.tup ys) (fun d => d = .tup (xs ++ ys)) := fun Z B H vx vy Q sm str r1 r2 q => by
  cases r1 with
  | @tup a vs _ ha ra =>
    cases r2 with
    | @tup b ws _ hb rb =>
      have pr : Post K Z B H B H := ⟨.refl B, sm, .refl, .refl, str⟩
      refine ⟨a, b, vs, ws, rfl, rfl, sameT sm ha, sameT sm hb, by rw [ra.length, rb.length, PySem.sizeLine_eq]; exact hl, fun e => ?_, fun _ e => ?_, fun _ _ p hp => ?_⟩
      · subst e
        cases ra
        exact q _ _ B H rfl pr (.tup hb rb)
      · subst e
        cases rb
        rw [List.append_nil] at q
        exact q _ _ B H rfl pr (.tup ha ra)
      · have P := Post.new (K := K) (Z := Z) (o := .tup (vs ++ ws)) sm str hp
        exact q _ _ _ _ rfl P (.tup (SqT.of upd_same) ((ra.append rb).mono P.sub))
theorem o_catL {xs ys : List D} (hl : xs.length + ys.length ≤ 16777216) : OpD K C rCat (.lst xs) (.lst ys) (fun d => d = .lst (xs ++ ys)) := fun Z B H vx vy Q sm str r1 r2 q => by
  cases r1 with
  | @lst a vs _ ha ra =>
    cases r2 with
    | @lst b ws _ hb rb =>
      refine ⟨a, b, vs, ws, rfl, rfl, sm _ _ ha, sm _ _ hb, by rw [ra.length, rb.length, PySem.sizeLine_eq]; exact hl, fun p hp => ?_⟩
      have P := Post.new (K := K) (Z := Z) (o := .lst (vs ++ ws)) sm str hp
      exact q _ _ _ _ rfl P (.lst upd_same ((ra.append rb).mono P.sub))
theorem o_repL {xs : List D} {k : Int} (h0 : 0 ≤ k) (hl : xs.length * k.toNat ≤ 16777216) (hk : k ≤ 16777216) : OpD K C rRep (.lst xs) (.int k) (fun d => d = .lst (List.replicate k.toNat xs).flatten) := fun Z B H vx vy Q sm str r1 r2 q => by
  cases r1 with
  | @lst a vs _ ha ra =>
    cases r2
    refine ⟨a, k, vs, rfl, rfl, sm _ _ ha, by omega, by omega, by rw [ra.length, PySem.sizeLine_eq]; exact hl, fun p hp => ?_⟩
    have P := Post.new (K := K) (Z := Z) (o := .lst (List.replicate k.toNat vs).flatten) sm str hp
    exact q _ _ _ _ rfl P (.lst upd_same ((ra.rep _).mono P.sub))
theorem atI_get {B : Hp} {vs : List V} {ds : List D} {i : Int} {d : D} (r : Reps K C B vs ds) (h : atI ds i = some d) : ∃ v, atI vs i = some v ∧ Rep K C B v d := by
  unfold atI at h ⊢
  rw [r.length]
  cases e : ixN ds.length i with
  | none => rw [e] at h; cases h
  | some j =>
    rw [e] at h
    exact r.get h
theorem o_ixL {ds : List D} {i : Int} {d : D} (h : atI ds i = some d) : OpD K C (rIx K) (.lst ds) (.int i) (fun x => x = d) := fun Z B H vx vy Q sm str r1 r2 q => by
  cases r1 with
  | @lst a vs _ ha ra =>
    cases r2
    obtain ⟨v, e, r⟩ := atI_get ra h
    exact .inl ⟨a, vs, i, v, rfl, rfl, SqL.of (sm _ _ ha), e, q _ _ B H rfl ⟨.refl B, sm, .refl, .refl, str⟩ r⟩
theorem o_ixT {ds : List D} {i : Int} {d : D} (h : atI ds i = some d) : OpD K C (rIx K) (.tup ds) (.int i) (fun x => x = d) := fun Z B H vx vy Q sm str r1 r2 q => by
  cases r1 with
  | @tup a vs _ ha ra =>
    cases r2
    obtain ⟨v, e, r⟩ := atI_get ra h
    exact .inr (.inl ⟨a, vs, i, v, rfl, rfl, sameT sm ha, e, q _ _ B H rfl ⟨.refl B, sm, .refl, .refl, str⟩ r⟩)
theorem atI_pos {α : Type} {xs : List α} {n : Nat} {x : α} (h : xs[n]? = some x) : atI xs (n : Int) = some x := atI_nat h
/-- t[lo:hi] -/
def cutD (ds : List D) (lo hi : Option Int) : List D := List.take (HT.sIx ds.length ds.length hi - HT.sIx ds.length 0 lo) (List.drop (HT.sIx ds.length 0 lo) ds)
def PoD (K : PySem.W.Frag) (C : Addr) (t : TO) (S : List Sl) (o : Option Int) : Prop :=
  ∀ Z B H σ (Q : Option Int → Hp → Prop), Holds K C Z B H σ S → (∀ B' H', Post K Z B H B' H' → Q o H') → t σ H Q
theorem po_no {S : List Sl} : PoD K C tNoPart S none := fun Z B H σ Q hh q => q B H (.refl hh)
theorem po_yes {S : List Sl} {te : TE} {i : Int} (h : VlD K C te S (.int i)) : PoD K C (tPart te) S (some i) := fun Z B H σ Q hh q => by
  refine h Z B H σ _ hh fun v d B1 H1 p P1 r1 => ?_
  subst p
  cases r1
  exact ⟨i, rfl, q B1 H1 P1⟩
theorem v_slice {S : List Sl} {te : TE} {tl th : TO} {ds : List D} {lo hi : Option Int} (h : VlD K C te S (.tup ds)) (hl : PoD K C tl S lo) (hh : PoD K C th S hi) : VlD K C (tSl (rSlA K) te tl th) S (.tup (cutD ds lo hi)) := fun Z B H σ Q hold q => by
  refine h Z B H σ _ hold fun v d B1 H1 p P1 r1 => ?_
  subst p
  refine hl Z B1 H1 σ _ (hold.post P1) fun B2 H2 P2 => ?_
  refine hh Z B2 H2 σ _ ((hold.post P1).post P2) fun B3 H3 P3 => ?_
  have P03 := (P1.trans hold.str P2).trans hold.str P3
  have r3 := (r1.mono P2.sub).mono P3.sub
  cases r3 with
  | @tup a vs _ ha ra =>
    refine ⟨a, vs, rfl, sameT P3.sub2 ha, fun e => ?_, fun _ p hp => ?_⟩
    · have e2 : cutD ds lo hi = ds := by
        unfold cutD
        rw [← ra.length, e.1, e.2]
        rw [List.drop_zero, Nat.sub_zero, ra.length]
        exact List.take_length
      rw [e2] at q
      exact q _ _ B3 H3 rfl P03 (.tup ha ra)
    · have P := Post.new (K := K) (Z := Z) (o := .tup (cutV vs lo hi)) P3.sub2 P3.str hp
      refine q _ _ _ _ rfl (P03.trans hold.str P) (.tup (SqT.of upd_same) (Reps.mono P.sub ?_))
      unfold cutV cutD
      rw [ra.length]
      exact (ra.drop _).take _
theorem v_tup {S : List Sl} {ta : TA} {ds : List D} (h : AgD K C ta S (fun x => x = ds.map Sl.im)) (hz : ds.length ≤ 1000 := by first | decide | simp) : VlD K C (tTup ta) S (.tup ds) := fun Z B H σ Q hh q => by
  refine h Z B H σ _ hh fun vs ss B1 H1 e P1 r1 => ?_
  subst e
  have rr := r1.ims
  refine ⟨by rw [rr.length]; exact Nat.le_of_lt (small1000 hz), fun p hp => ?_⟩
  have P := Post.new (K := K) (Z := Z) (o := .tup vs) P1.sub2 P1.str hp
  exact q _ _ _ _ rfl (P1.trans hh.str P) (.tup (SqT.of upd_same) (rr.mono P.sub))
theorem v_lst {S : List Sl} {ta : TA} {ds : List D} (h : AgD K C ta S (fun x => x = ds.map Sl.im)) (hz : ds.length ≤ 1000 := by first | decide | simp) : VlD K C (tLst ta) S (.lst ds) := fun Z B H σ Q hh q => by
  refine h Z B H σ _ hh fun vs ss B1 H1 e P1 r1 => ?_
  subst e
  have rr := r1.ims
  refine ⟨by rw [rr.length]; exact Nat.le_of_lt (small1000 hz), fun p hp => ?_⟩
  have P := Post.new (K := K) (Z := Z) (o := .lst vs) P1.sub2 P1.str hp
  exact q _ _ _ _ rfl (P1.trans hh.str P) (.lst upd_same (rr.mono P.sub))
/-- a display with an item that is only known in part -/
theorem e_tup {S : List Sl} {ta : TA} {P : List Sl → Prop} (h : AgD K C ta S (fun x => ∃ ds : List D, x = ds.map Sl.im ∧ P x ∧ ds.length ≤ 1000)) : EvD K C (tTup ta) S (fun d => ∃ ds : List D, d = .tup ds ∧ P (ds.map Sl.im)) := fun Z B H σ Q hh q => by
  refine h Z B H σ _ hh fun vs ss B1 H1 e P1 r1 => ?_
  obtain ⟨ds, rfl, p, hz⟩ := e
  have rr := r1.ims
  refine ⟨by rw [rr.length]; exact Nat.le_of_lt (small1000 hz), fun a hp => ?_⟩
  have P := Post.new (K := K) (Z := Z) (o := .tup vs) P1.sub2 P1.str hp
  exact q _ _ _ _ ⟨ds, rfl, p⟩ (P1.trans hh.str P) (.tup (SqT.of upd_same) (rr.mono P.sub))
/-! ### built-ins -/
abbrev rLenS (K : PySem.W.Frag) : List V → Hp → VK → Prop := fun xs H Q => ∃ p ys, xs = [.ref p] ∧ (SqL K H p ys ∨ SqT K H p ys) ∧ Q (.int ys.length) H
abbrev rListS (K : PySem.W.Frag) : List V → Hp → VK → Prop := fun xs H Q => ∃ p ys, xs = [.ref p] ∧ (SqL K H p ys ∨ SqT K H p ys) ∧ ∀ l, H l = none → Q (.ref l) (upd H l (.lst ys))
abbrev rTupS (K : PySem.W.Frag) : List V → Hp → VK → Prop := fun xs H Q => ∃ p ys, xs = [.ref p] ∧ ((SqL K H p ys ∧ ∀ l, H l = none → Q (.ref l) (upd H l (.tup ys))) ∨ (SqT K H p ys ∧ Q (.ref p) H))
abbrev rAbs : List V → Hp → VK → Prop := fun xs H Q => ∃ i : Int, xs = [.int i] ∧ Q (.int (if i < 0 then -i else i)) H
abbrev rIntC : List V → Hp → VK → Prop := fun xs H Q => (∃ i : Int, xs = [.int i] ∧ Q (.int i) H) ∨ ∃ k : Bool, xs = [.bl k] ∧ Q (.int (if k then 1 else 0)) H
abbrev rMaxT : List V → Hp → VK → Prop := fun xs H Q => ∃ i j : Int, xs = [.int i, .int j] ∧ Q (.int (if j > i then j else i)) H
theorem k_lenL {ds : List D} : ClD K C (rLenS K) [.lst ds] (fun d => d = .int (ds.length : Int)) := fun Z B H vs Q sm str r q => by
  cases r with
  | cons r rr =>
    cases rr
    cases r with
    | @lst a ws _ ha ra => exact ⟨a, ws, rfl, .inl (SqL.of (sm _ _ ha)), by rw [ra.length]; exact q _ _ B H rfl ⟨.refl B, sm, .refl, .refl, str⟩ (.int _)⟩
theorem k_lenT {ds : List D} : ClD K C (rLenS K) [.tup ds] (fun d => d = .int (ds.length : Int)) := fun Z B H vs Q sm str r q => by
  cases r with
  | cons r rr =>
    cases rr
    cases r with
    | @tup a ws _ ha ra => exact ⟨a, ws, rfl, .inr (sameT sm ha), by rw [ra.length]; exact q _ _ B H rfl ⟨.refl B, sm, .refl, .refl, str⟩ (.int _)⟩
theorem k_listL {ds : List D} : ClD K C (rListS K) [.lst ds] (fun d => d = .lst ds) := fun Z B H vs Q sm str r q => by
  cases r with
  | cons r rr =>
    cases rr
    cases r with
    | @lst a ws _ ha ra =>
      refine ⟨a, ws, rfl, .inl (SqL.of (sm _ _ ha)), fun p hp => ?_⟩
      have P := Post.new (K := K) (Z := Z) (o := .lst ws) sm str hp
      exact q _ _ _ _ rfl P (.lst upd_same (ra.mono P.sub))
theorem k_tupL {ds : List D} : ClD K C (rTupS K) [.lst ds] (fun d => d = .tup ds) := fun Z B H vs Q sm str r q => by
  cases r with
  | cons r rr =>
    cases rr
    cases r with
    | @lst a ws _ ha ra =>
      refine ⟨a, ws, rfl, .inl ⟨SqL.of (sm _ _ ha), fun p hp => ?_⟩⟩
      have P := Post.new (K := K) (Z := Z) (o := .tup ws) sm str hp
      exact q _ _ _ _ rfl P (.tup (SqT.of upd_same) (ra.mono P.sub))
theorem k_tupT {ds : List D} : ClD K C (rTupS K) [.tup ds] (fun d => d = .tup ds) := fun Z B H vs Q sm str r q => by
  cases r with
  | cons r rr =>
    cases rr
    cases r with
    | @tup a ws _ ha ra => exact ⟨a, ws, rfl, .inr ⟨sameT sm ha, q _ _ B H rfl ⟨.refl B, sm, .refl, .refl, str⟩ (.tup ha ra)⟩⟩
theorem k_abs {a : Int} : ClD K C rAbs [.int a] (fun d => d = .int (if a < 0 then -a else a)) := fun Z B H vs Q sm str r q => by
  cases r with
  | cons r rr =>
    cases rr
    cases r
    exact ⟨a, rfl, q _ _ B H rfl ⟨.refl B, sm, .refl, .refl, str⟩ (.int _)⟩
theorem k_int {a : Int} : ClD K C rIntC [.int a] (fun d => d = .int a) := fun Z B H vs Q sm str r q => by
  cases r with
  | cons r rr =>
    cases rr
    cases r
    exact .inl ⟨a, rfl, q _ _ B H rfl ⟨.refl B, sm, .refl, .refl, str⟩ (.int _)⟩
theorem k_max2 {a b : Int} : ClD K C rMaxT [.int a, .int b] (fun d => d = .int (if b > a then b else a)) := fun Z B H vs Q sm str r q => by
  cases r with
  | cons r rr =>
    cases rr with
    | cons r2 rr =>
      cases rr
      cases r
      cases r2
      exact ⟨a, b, rfl, q _ _ B H rfl ⟨.refl B, sm, .refl, .refl, str⟩ (.int _)⟩
theorem k_max {ns : List Int} {m : Int} (h : m ∈ ns) (hm : ∀ y ∈ ns, y ≤ m) : ClD K C (rMax K) [.lst (ns.map D.int)] (fun d => d = .int m) := fun Z B H vs Q sm str r q => by
  cases r with
  | cons r rr =>
    cases rr
    cases r with
    | @lst a ws _ ha ra =>
      have e := ra.ints_inv
      subst e
      refine ⟨a, ns, rfl, SqL.of (sm _ _ ha), List.length_pos_of_mem h, fun k hk hle => ?_⟩
      have e : k = m := Int.le_antisymm (hm k hk) (hle m h)
      subst e
      exact q _ _ B H rfl ⟨.refl B, sm, .refl, .refl, str⟩ (.int _)
theorem k_any {bs : List Bool} : ClD K C (rAny K) [.lst (bs.map D.bl)] (fun d => d = .bl (bs.any id)) := fun Z B H vs Q sm str r q => by
  cases r with
  | cons r rr =>
    cases rr
    cases r with
    | @lst a ws _ ha ra =>
      have e := ra.bls_inv
      subst e
      exact ⟨a, bs, rfl, SqL.of (sm _ _ ha), q _ _ B H rfl ⟨.refl B, sm, .refl, .refl, str⟩ (.bl _)⟩
theorem k_all {bs : List Bool} : ClD K C (rAll K) [.lst (bs.map D.bl)] (fun d => d = .bl (bs.all id)) := fun Z B H vs Q sm str r q => by
  cases r with
  | cons r rr =>
    cases rr
    cases r with
    | @lst a ws _ ha ra =>
      have e := ra.bls_inv
      subst e
      exact ⟨a, bs, rfl, SqL.of (sm _ _ ha), q _ _ B H rfl ⟨.refl B, sm, .refl, .refl, str⟩ (.bl _)⟩
/-- isinstance(x, T) -/
def tIsi (K : PySem.W.Frag) (te : TE) (n : String) : TE := tCB (rIsi K) (tCons te (tCons (tC (.ty n)) tNil))
theorem kit_ii : kitB "int" "int" = some true := by decide +kernel
theorem kit_si : kitB "str" "int" = some false := by decide +kernel
theorem kit_ll : kitB "list" "list" = some true := by decide +kernel
theorem v_isi {S : List Sl} {te : TE} {n m : String} {d : D} {b : Bool} (h : VlD K C te S d) (hd : ∀ B H v, Same B H → Rep K C B v d → TyX K H v (.type m)) (hk : kitB m n = some b) : VlD K C (tIsi K te n) S (.bl b) := fun Z B H σ Q hh q => by
  refine h Z B H σ _ hh fun v d B1 H1 p P1 r1 => ?_
  subst p
  exact ⟨v, .ty n, .type m, .type n, b, rfl, .ty n, hd B1 H1 v P1.sub2 r1, kit_ty hk, q _ _ B1 H1 rfl P1 (.bl b)⟩
theorem v_isiI {S : List Sl} {te : TE} {i : Int} (h : VlD K C te S (.int i)) : VlD K C (tIsi K te "int") S (.bl true) :=
  v_isi h (fun B H v sm r => by cases r; exact .base (.int i)) kit_ii
theorem v_isiS {S : List Sl} {te : TE} {s : Str} (h : VlD K C te S (.str s)) : VlD K C (tIsi K te "int") S (.bl false) :=
  v_isi h (fun B H v sm r => by cases r; exact .base (.str s)) kit_si
theorem v_isiL {S : List Sl} {te : TE} {ds : List D} (h : VlD K C te S (.lst ds)) : VlD K C (tIsi K te "list") S (.bl true) :=
  v_isi h (fun B H v sm r => by cases r with | lst ha _ => exact .base (.lst (sm _ _ ha))) kit_ll
/-! ### truth of a list -/
def tTrue (K : PySem.W.Frag) (ta : TE) : TT := fun σ H Q => ta σ H fun x H' => ∃ k, TruV K x H' k ∧ Q k H'
theorem t_trueL {S : List Sl} {te : TE} {ds : List D} (h : VlD K C te S (.lst ds)) : TsD K C (tTrue K te) S (fun b => b = !ds.isEmpty) := fun Z B H σ Q hh q => by
  refine h Z B H σ _ hh fun v d B1 H1 p P1 r1 => ?_
  subst p
  cases r1 with
  | @lst a vs _ ha ra =>
    refine ⟨!vs.isEmpty, .inl ⟨vs, SqL.of (P1.sub2 _ _ ha), rfl⟩, q _ B1 H1 ?_ P1⟩
    cases ra <;> rfl
/-! ### chains -/
theorem v_chain {S : List Sl} {r r' : R2} {ta tb tc : TE} {x y z : D} {b c : Bool} (ha : VlD K C ta S x) (hb : VlD K C tb S y) (hr : OpD K C r x y (fun d => d = .bl b)) (hc : b = true → VlD K C tc S z) (hr' : b = true → OpD K C r' y z (fun d => d = .bl c)) (e : b = false → c = false) : VlD K C (tChain r r' ta tb tc) S (.bl c) := fun Z B H σ Q hh q => by
  refine ha Z B H σ _ hh fun v d B1 H1 p P1 r1 => ?_
  subst p
  refine hb Z B1 H1 σ _ (hh.post P1) fun w d B2 H2 p P2 r2 => ?_
  subst p
  refine hr Z B2 H2 v w _ P2.sub2 P2.str (r1.mono P2.sub) r2 fun u d B3 H3 p P3 r3 => ?_
  subst p
  cases r3
  have P03 := (P1.trans hh.str P2).trans hh.str P3
  refine ⟨b, rfl, ?_⟩
  cases b with
  | false =>
    cases e rfl
    exact iteF (q _ _ B3 H3 rfl P03 (.bl false))
  | true =>
    refine iteT (hc rfl Z B3 H3 σ _ (hh.post P03) fun w' d B4 H4 p P4 r4 => ?_)
    subst p
    refine hr' rfl Z B4 H4 w w' _ P4.sub2 P4.str ((r2.mono P3.sub).mono P4.sub) r4 fun u d B5 H5 p P5 r5 => ?_
    exact q u d B5 H5 p ((P03.trans hh.str P4).trans hh.str P5) r5
/-! ### own defs -/
/-- a def's promise: called with the data that g tells, where g is as pre asks, it hands back a datum of post g -/
def spG (K : PySem.W.Frag) (C : Addr) {G : Type} (n : Nat) (args : G → List Sl) (pre : G → Prop) (post : G → D → Prop) : Sp := fun vs H Q _ =>
  ∃ (Z : Zt) (B : Hp) (g : G), vs.length = n ∧ (args g).length = n ∧ (∀ s ∈ args g, s.own = false) ∧ Holds K C Z B H (vs.map some) (args g) ∧ pre g ∧ ∀ v d B' H', post g d → Post K Z B H B' H' → Rep K C B' v d → Q v H'
theorem holds_args {Z : Zt} {B H : Hp} {σ : L2.St} {S : List Sl} (hh : Holds K C Z B H σ S) {vs : List V} {ss : List Sl} (r : ArsOk K C Z B vs ss) : (∀ s ∈ ss, s.own = false) ∧ Holds K C Z B H (vs.map some) ss := by
  have no : ∀ s ∈ ss, s.own = false := by
    induction r with
    | nil => intro s h; cases h
    | @cons v s vs ss r _ ih =>
      intro t h
      rcases List.mem_cons.mp h with e | h
      · subst e
        cases t with
        | im d => rfl
        | st => rfl
        | fz _ _ => exact r.elim
        | sq _ _ => rfl
        | un => rfl
        | ml _ => exact r.elim
        | md _ => exact r.elim
        | po _ => exact r.elim
      · exact ih t h
  refine ⟨no, ⟨by rw [List.length_map]; exact r.length, hh.sub, hh.str, fun i s e => ?_, fun i j s t _ e1 _ o1 _ => ?_⟩⟩
  · clear no
    induction r generalizing i with
    | nil => simp at e
    | @cons v s' vs ss r _ ih =>
      cases i with
      | zero =>
        simp only [List.getElem?_cons_zero, Option.some.injEq] at e
        subst e
        simp only [List.map_cons, List.getElem?_cons_zero]
        cases s' with
        | im d => exact ⟨v, rfl, r⟩
        | st => obtain ⟨p, rfl, z⟩ := r; exact ⟨p, rfl, z⟩
        | fz _ _ => exact r.elim
        | sq a vs => exact ⟨by rw [r.1], r.2⟩
        | un => exact r.elim
        | ml _ => exact r.elim
        | md _ => exact r.elim
        | po _ => exact r.elim
      | succ i =>
        simp only [List.getElem?_cons_succ] at e
        simp only [List.map_cons, List.getElem?_cons_succ]
        exact ih i e
  · have := no s (List.mem_of_getElem? e1)
    rw [o1] at this; cases this
theorem e_call {G : Type} {n : Nat} {args : G → List Sl} {pre : G → Prop} {post : G → D → Prop} {S : List Sl} {t : TA} {P : List Sl → Prop} {R : D → Prop} (ha : AgD K C t S P)
    (h : ∀ ss, P ss → ∃ g, ss = args g ∧ (args g).length = n ∧ pre g ∧ ∀ d, post g d → R d) : EvD K C (tCall (spG K C n args pre post) [] E0 t) S R := fun Z B H σ Q hh q => by
  refine ha Z B H σ _ hh fun vs ss B1 H1 p P1 r1 => ?_
  obtain ⟨g, rfl, hn, hp, hq⟩ := h ss p
  have hh1 := hh.post P1
  obtain ⟨no, hold⟩ := holds_args hh1 r1
  show spG K C n args pre post (vs ++ []) H1 Q E0
  rw [List.append_nil]
  exact ⟨Z, B1, g, by rw [r1.length]; exact hn, hn, no, hold, hp, fun v d B2 H2 pd P2 r2 => q v d B2 H2 (hq d pd) (P1.trans hh.str P2) r2⟩
theorem v_call {G : Type} {n : Nat} {args : G → List Sl} {pre : G → Prop} {post : G → D → Prop} {S : List Sl} {t : TA} (g : G) (ha : AgD K C t S (fun ss => ss = args g)) (hp : pre g) (hn : (args g).length = n := by rfl) : EvD K C (tCall (spG K C n args pre post) [] E0 t) S (post g) :=
  e_call ha fun ss e => ⟨g, e, hn, hp, fun d p => p⟩
theorem Post.heap2 {Z : Zt} {B H H1 B' H' : Hp} (sm : Same H H1) (P : Post K Z B H1 B' H') : Post K Z B H B' H' :=
  ⟨P.sub, P.sub2, fun a o e z => P.kp a o (sm a o e) z, fun a o e => (P.fre a o e).imp id fun q => sm.free q, P.str⟩
/-- the body keeps the promise -/
theorem run_of {G : Type} {n : Nat} {args : G → List Sl} {pre : G → Prop} {post : G → D → Prop} {N : List Str} {t : TS}
    (h : ∀ g, pre g → (args g).length = n → CmD K C t (args g ++ List.replicate (N.length - n) .un) (fun _ => post g .non) (post g) no no)
    {vs : List V} {H : Hp} {Q : VK} {E : XK} (hsp : spG K C n args pre post vs H Q E) : t { nx := fun _ H' => Q .non H', rt := Q } (L2.start N vs) H := by
  obtain ⟨Z, B, g, hv, ha, hno, hold, hp, q⟩ := hsp
  have hno2 : ∀ s ∈ args g ++ List.replicate (N.length - n) Sl.un, s.own = false := fun s hs => by
    rcases List.mem_append.mp hs with h | h
    · exact hno s h
    · rw [List.eq_of_mem_replicate h]; rfl
  have hst : Holds K C Z B H (L2.start N vs) (args g ++ List.replicate (N.length - n) .un) := by
    refine ⟨?_, hold.sub, hold.str, fun i s e => ?_, fun i j s t _ e1 _ o1 _ => ?_⟩
    · unfold L2.start
      rw [List.length_append, List.length_append, List.length_map, List.length_replicate, List.length_replicate, hv, ha]
    · unfold L2.start
      by_cases hi : i < n
      · rw [List.getElem?_append_left (by omega)] at e
        rw [List.getElem?_append_left (by rw [List.length_map]; omega)]
        exact hold.slot i s e
      · rw [List.getElem?_append_right (by omega)] at e
        have := List.eq_of_mem_replicate (List.mem_of_getElem? e)
        subst this
        trivial
    · have := hno2 s (List.mem_of_getElem? e1)
      rw [o1] at this; cases this
  have nown : ∀ a, ¬ OwnAt (args g ++ List.replicate (N.length - n) Sl.un) (L2.start N vs) a := fun a ⟨i, s, e, o, _⟩ => by
    have := hno2 s (List.mem_of_getElem? e)
    rw [o] at this; cases this
  refine h g hp ha Z B H _ _ hst (fun S' σ' B' H' p st => ?_) (fun v d B' H' p f r => ?_) (fun S' σ' B' H' p _ => p.elim) (fun S' σ' B' H' p _ => p.elim)
  · exact q .non .non B' H' p ⟨st.sub, st.hold.sub, fun a o e z => (st.kp a o e z (nown a)).1, fun a o e => (st.fre a o e).imp id fun q => q.elim id fun z => (nown a z).elim, st.hold.str⟩ .non
  · exact q v d B' H' p ⟨f.sub, f.sub2, fun a o e z => f.kp a o e z (nown a), fun a o e => (f.fre a o e).imp id fun q => q.elim id fun z => (nown a z).elim, f.str⟩ r
theorem spG_len {G : Type} {n : Nat} {args : G → List Sl} {pre : G → Prop} {post : G → D → Prop} (vs : List V) (H : Hp) (Q : VK) (E : XK) (h : spG K C n args pre post vs H Q E) : vs.length = n := by
  obtain ⟨Z, B, g, hv, _⟩ := h
  exact hv
end
end Dl
end
section
set_option Elab.async false
set_option autoImplicit false
set_option linter.all false
set_option maxRecDepth 100000
set_option maxHeartbeats 4000000
/-! Blocks step by step; the text's facts; defs as they stand. -/
namespace Dl
open PySem L2
section
variable {K : PySem.W.Frag} {C : Addr} {S : List Sl} {N M Bk Ct : List Sl → Prop} {R : D → Prop} {t u : TS} {te : TE} {P : D → Prop} {i j : Nat}
theorem q_set {d : D} (h : VlD K C te S d) (k : CmD K C u (S.set i (.im d)) N R Bk Ct) : CmD K C (tSeq (tAsg te (gName i)) u) S N R Bk Ct :=
  c_seq (M := fun S' => S' = S.set i (.im d)) (c_asgV h rfl) fun S' e => by rw [e]; exact k
theorem q_setE (h : EvD K C te S P) (k : ∀ d, P d → CmD K C u (S.set i (.im d)) N R Bk Ct) : CmD K C (tSeq (tAsg te (gName i)) u) S N R Bk Ct :=
  c_seq (M := fun S' => ∃ d, P d ∧ S' = S.set i (.im d)) (c_asg h fun d p => ⟨d, p, rfl⟩) fun S' ⟨d, p, e⟩ => by rw [e]; exact k d p
theorem q_lst {ta : TA} {ds : List D} (h : AgD K C ta S (fun x => x = ds.map Sl.im)) (k : CmD K C u (S.set i (.ml ds)) N R Bk Ct) (hz : ds.length ≤ 1000 := by first | decide | simp) : CmD K C (tSeq (tAsg (tLst ta) (gName i)) u) S N R Bk Ct :=
  c_seq (M := fun S' => S' = S.set i (.ml ds)) (c_lst h rfl hz) fun S' e => by rw [e]; exact k
theorem q_lst0 (k : CmD K C u (S.set i (.ml [])) N R Bk Ct) : CmD K C (tSeq (tAsg (tLst tNil) (gName i)) u) S N R Bk Ct := q_lst (ds := []) a_nil k
theorem q_aug {f : Int → Int → Int} {a b : Int} (hi : S[i]? = some (.im (.int a))) (h : VlD K C te S (.int b)) (k : CmD K C u (S.set i (.im (.int (f a b)))) N R Bk Ct) : CmD K C (tSeq (tAug i te (ipI f)) u) S N R Bk Ct :=
  c_seq (M := fun S' => S' = S.set i (.im (.int (f a b)))) (c_aug hi h rfl) fun S' e => by rw [e]; exact k
theorem q_app {ds : List D} {d : D} (hj : S[j]? = some (.ml ds)) (h : VlD K C te S d) (hl : ds.length < 16777216) (k : CmD K C u (S.set j (.ml (ds ++ [d]))) N R Bk Ct) :
    CmD K C (tSeq (tDrop (tBM K "list" rAppend (tVar j) (tCons te tNil))) u) S N R Bk Ct :=
  c_seq (M := fun S' => S' = S.set j (.ml (ds ++ [d]))) (c_appendV hj h (by rw [PySem.sizeLine_eq]; exact hl) rfl) fun S' e => by rw [e]; exact k
theorem c_app {ds : List D} {d : D} (hj : S[j]? = some (.ml ds)) (h : VlD K C te S d) (hl : ds.length < 16777216) (k : N (S.set j (.ml (ds ++ [d])))) :
    CmD K C (tDrop (tBM K "list" rAppend (tVar j) (tCons te tNil))) S N R Bk Ct := c_appendV hj h (by rw [PySem.sizeLine_eq]; exact hl) k
theorem q_pop {ds : List D} {d : D} (hj : S[j]? = some (.ml (ds ++ [d]))) (k : CmD K C u ((S.set j (.ml ds)).set i (.im d)) N R Bk Ct) : CmD K C (tSeq (tAsg (tBM0 K "list" rPop (tVar j)) (gName i)) u) S N R Bk Ct :=
  c_seq (M := fun S' => S' = (S.set j (.ml ds)).set i (.im d)) (c_pop hj rfl) fun S' e => by rw [e]; exact k
theorem q_ext {ds es : List D} (hj : S[j]? = some (.ml ds)) (h : VlD K C te S (.lst es)) (hl : ds.length + es.length ≤ 16777216) (k : CmD K C u (S.set j (.ml (ds ++ es))) N R Bk Ct) :
    CmD K C (tSeq (tDrop (tBM K "list" rExtend (tVar j) (tCons te tNil))) u) S N R Bk Ct :=
  c_seq (M := fun S' => S' = S.set j (.ml (ds ++ es))) (c_extend hj h (by rw [PySem.sizeLine_eq]; exact hl) rfl) fun S' e => by rw [e]; exact k
theorem q_drop (h : EvD K C te S P) (k : CmD K C u S N R Bk Ct) : CmD K C (tSeq (tDrop te) u) S N R Bk Ct :=
  c_seq (M := fun S' => S' = S) (c_drop h rfl) fun S' e => by rw [e]; exact k
theorem q_tg {g : TG} {d : D} {S2 : List Sl} (h : VlD K C te S d) (tg : TgD K C g d S S2) (k : CmD K C u S2 N R Bk Ct) : CmD K C (tSeq (tAsg te g) u) S N R Bk Ct :=
  c_seq (M := fun S' => S' = S2) (c_tgV h tg rfl) fun S' e => by rw [e]; exact k
theorem q_tgE {g : TG} (h : EvD K C te S P) (k : ∀ d, P d → ∃ S2, TgD K C g d S S2 ∧ CmD K C u S2 N R Bk Ct) : CmD K C (tSeq (tAsg te g) u) S N R Bk Ct :=
  c_seq (M := fun S' => CmD K C u S' N R Bk Ct) (c_tg h k) fun S' q => q
/-- an if whose ways meet in M -/
theorem q_if {c : TT} {t1 t2 : TS} {Pb : Bool → Prop} (M : List Sl → Prop) (h : TsD K C c S Pb) (h1 : Pb true → CmD K C t1 S M R Bk Ct) (h2 : Pb false → CmD K C t2 S M R Bk Ct) (k : ∀ S', M S' → CmD K C u S' N R Bk Ct) : CmD K C (tSeq (tIfS c t1 t2) u) S N R Bk Ct :=
  c_seq (c_if h h1 h2) k
/-- an if that is known -/
theorem q_yes {c : TT} {t1 t2 : TS} (h : TsD K C c S (fun b => b = true)) (h1 : CmD K C (tSeq t1 u) S N R Bk Ct) : CmD K C (tSeq (tIfS c t1 t2) u) S N R Bk Ct := fun Z B H σ E hh n r b cc => by
  refine h Z B H σ _ hh fun x B1 H1 p P1 => ?_
  subst p
  have st := P1.step hh
  exact iteT (h1 Z B1 H1 σ E st.hold (fun S' σ' B' H' p' st' => n S' σ' B' H' p' (st.trans hh st')) (fun v d B' H' p' f q => r v d B' H' p' (st.fin hh f) q)
        (fun S' σ' B' H' p' st' => b S' σ' B' H' p' (st.trans hh st')) (fun S' σ' B' H' p' st' => cc S' σ' B' H' p' (st.trans hh st')))
theorem q_no {c : TT} {t1 t2 : TS} (h : TsD K C c S (fun b => b = false)) (h1 : CmD K C (tSeq t2 u) S N R Bk Ct) : CmD K C (tSeq (tIfS c t1 t2) u) S N R Bk Ct := fun Z B H σ E hh n r b cc => by
  refine h Z B H σ _ hh fun x B1 H1 p P1 => ?_
  subst p
  have st := P1.step hh
  exact iteF (h1 Z B1 H1 σ E st.hold (fun S' σ' B' H' p' st' => n S' σ' B' H' p' (st.trans hh st')) (fun v d B' H' p' f q => r v d B' H' p' (st.fin hh f) q)
        (fun S' σ' B' H' p' st' => b S' σ' B' H' p' (st.trans hh st')) (fun S' σ' B' H' p' st' => cc S' σ' B' H' p' (st.trans hh st')))
/-- both ways followed to the end -/
theorem q_ways {c : TT} {t1 t2 : TS} {Pb : Bool → Prop} (h : TsD K C c S Pb) (h1 : Pb true → CmD K C (tSeq t1 u) S N R Bk Ct) (h2 : Pb false → CmD K C (tSeq t2 u) S N R Bk Ct) : CmD K C (tSeq (tIfS c t1 t2) u) S N R Bk Ct := fun Z B H σ E hh n r b cc => by
  refine h Z B H σ _ hh fun x B1 H1 p P1 => ?_
  have st := P1.step hh
  cases x with
  | true => exact iteT (h1 p Z B1 H1 σ E st.hold (fun S' σ' B' H' p' st' => n S' σ' B' H' p' (st.trans hh st')) (fun v d B' H' p' f q => r v d B' H' p' (st.fin hh f) q)
        (fun S' σ' B' H' p' st' => b S' σ' B' H' p' (st.trans hh st')) (fun S' σ' B' H' p' st' => cc S' σ' B' H' p' (st.trans hh st')))
  | false => exact iteF (h2 p Z B1 H1 σ E st.hold (fun S' σ' B' H' p' st' => n S' σ' B' H' p' (st.trans hh st')) (fun v d B' H' p' f q => r v d B' H' p' (st.fin hh f) q)
        (fun S' σ' B' H' p' st' => b S' σ' B' H' p' (st.trans hh st')) (fun S' σ' B' H' p' st' => cc S' σ' B' H' p' (st.trans hh st')))
theorem q_next (k : CmD K C u S N R Bk Ct) : CmD K C (tSeq tNext u) S N R Bk Ct := c_seq (M := fun S' => S' = S) (c_next rfl) fun S' e => by rw [e]; exact k
theorem q_seq {v : TS} (k : CmD K C (tSeq t (tSeq u v)) S N R Bk Ct) : CmD K C (tSeq (tSeq t u) v) S N R Bk Ct := k
theorem q_ret {v : TS} {d : D} (h : VlD K C te S d) (k : R d) : CmD K C (tSeq (tRet te) v) S N R Bk Ct := c_seq (M := fun _ => False) (c_retV h k) fun S' e => e.elim
theorem q_retE {v : TS} (h : EvD K C te S P) (k : ∀ d, P d → R d) : CmD K C (tSeq (tRet te) v) S N R Bk Ct := c_seq (M := fun _ => False) (c_ret h k) fun S' e => e.elim
theorem q_brk {v : TS} (h : Bk S) : CmD K C (tSeq tBreak v) S N R Bk Ct := c_seq (M := fun _ => False) (c_brk h) fun S' e => e.elim
theorem q_for {wi : TI} {g : TG} {tb : TS} {items : List D} (hI : ItD K C wi S items) (Inv : Nat → List Sl → Prop) (Brk : List Sl → Prop) (h0 : Inv 0 S)
    (hs : ∀ i d S1, items[i]? = some d → Inv i S1 → ∃ S2, TgD K C g d S1 S2 ∧ CmD K C tb S2 (Inv (i + 1)) R Brk (Inv (i + 1))) (hd : ∀ S1, Inv items.length S1 → CmD K C u S1 N R Bk Ct) (hb : ∀ S1, Brk S1 → CmD K C u S1 N R Bk Ct) : CmD K C (tSeq (tFor wi g tb) u) S N R Bk Ct :=
  c_seq (M := fun S' => Inv items.length S' ∨ Brk S') (c_for hI Inv h0 (fun i d S1 e h => by
    obtain ⟨S2, a, b⟩ := hs i d S1 e h
    exact ⟨S2, a, b.mono (fun _ q => q) (fun _ q => q) (fun _ q => .inr q) (fun _ q => q)⟩) fun S1 h => .inl h) fun S' h => h.elim (hd S') (hb S')
theorem q_while {tc : TT} {tb : TS} (Inv : Nat → List Sl → Prop) (Brk : List Sl → Prop) (m0 : Nat) (h0 : Inv m0 S)
    (hs : ∀ m S1, Inv m S1 → ∃ Pb : Bool → Prop, TsD K C tc S1 Pb ∧ (Pb true → CmD K C tb S1 (fun S2 => ∃ m', m' < m ∧ Inv m' S2) R Brk (fun S2 => ∃ m', m' < m ∧ Inv m' S2)) ∧ (Pb false → CmD K C u S1 N R Bk Ct)) (hb : ∀ S1, Brk S1 → CmD K C u S1 N R Bk Ct) :
    CmD K C (tSeq (tWhile tc tb) u) S N R Bk Ct :=
  c_seq (M := fun S' => CmD K C u S' N R Bk Ct) (c_while Inv m0 h0 fun m S1 h => by
    obtain ⟨Pb, a, b, c⟩ := hs m S1 h
    exact ⟨Pb, a, fun p => (b p).mono (fun _ q => q) (fun _ q => q) (fun S q => hb S q) (fun _ q => q), c⟩) fun S' h => h
end
/-! ### the text -/
def topS (i : Nat) : Stmt := PySem.Challenge.pw_lydite_k99_whole_told_apart.main.body.getD i (.Pass ⟨0, 0, 0, 0⟩)
/-- what the names of the text hold: built-ins that are still so, constants, classes -/
structure Tx (K : PySem.W.Frag) (mg : Str → Option Value) (C aI : Addr) : Prop where
  len : mg "len" = none
  isinstance : mg "isinstance" = none
  max : mg "max" = none
  any : mg "any" = none
  all : mg "all" = none
  abs : mg "abs" = none
  int : mg "int" = none
  list : mg "list" = none
  tuple : mg "tuple" = none
  set : mg "set" = none
  sorted : mg "sorted" = none
  range : mg "range" = none
  zip : mg "zip" = none
  enumerate : mg "enumerate" = none
  MOST_NODES : ∃ t, mg "MOST_NODES" = some (.int 1000 t)
  MOST_VARIABLE : ∃ t, mg "MOST_VARIABLE" = some (.int 1000000 t)
  MOST_CROWD : ∃ t, mg "MOST_CROWD" = some (.int 12 t)
  MOST_ARGUMENTS : ∃ t, mg "MOST_ARGUMENTS" = some (.int 400 t)
  IDENTITY : mg "IDENTITY" = some (.ref aI)
  ident : ∀ B, SqT K B aI [.str "lam", .int 0]
/-- a def of the text keeps its promise -/
structure Df (P : Program) (w : World) (K : PySem.W.Frag) (mg : Str → Option Value) (base : Heap) (k : Nat) (x : Str) (ps : List Str) (sp : Sp) : Prop where
  ex : ∃ f fd, mg x = some (.ref f) ∧ PySem.W.keepIn K (.ref f) = true ∧ Binds K fd ps [] ∧ FnOk P w K mg base CX0 k f fd ps sp
theorem df_mk {P : Program} {w : World} {K : PySem.W.Frag} {mg : Str → Option Value} {base : Heap} {k : Nat} {x : Str} {ps : List Str} {sp : Sp} {f : Addr} {fd : FuncData} (hm : mg x = some (.ref f)) (kp : PySem.W.keepIn K (.ref f) = true) (b : Binds K fd ps []) (F : FnOk P w K mg base CX0 k f fd ps sp) :
    Df P w K mg base k x ps sp := ⟨f, fd, hm, kp, b, F⟩
theorem hu65 {A : Around} {k : Nat} (hr : Room k A) : A.units + 65 < cLine := by
  have := hr.un
  omega
section
variable {X : Cx}
theorem pe_own {k : Nat} {x : Str} {ps : List Str} {sp : Sp} {p pos : Pos} {e : Expr} {es : List Expr} {t : TA} (D : Df X.prog X.w X.K X.mg X.base k x ps sp) (hr : Room k X.A) (hg : Gl X x) (ha : PA X (e :: es) t) (hd : (x == ("__debug__" : Str)) = false := by decide)
    (hn : starEach (e :: es) X.env = (false, eval e X.env) :: starEach es X.env := by rfl) (hpl : (backTo pos (starEach es X.env)).any (·.1) = false := by rfl) : PE X (.Call (.Name x p) (e :: es) [] pos) (tCall sp [] E0 t) := by
  obtain ⟨f, fd, hm, kp, b, F⟩ := D.ex
  exact pe_call F hr hg hm kp b .nil pass0 ha hd hn hpl
theorem pe_globI {x : Str} {n : Int} {pos : Pos} (hg : Gl X x) (hm : ∃ t, X.mg x = some (.int n t)) (hd : (x == ("__debug__" : Str)) = false := by decide) : PE X (.Name x pos) (tC (.int n)) := by
  obtain ⟨t, e⟩ := hm
  exact pe_glob hg e ⟨t, rfl⟩ hd
end
end Dl
end
section
set_option Elab.async false
set_option autoImplicit false
set_option linter.all false
set_option maxRecDepth 100000
set_option maxHeartbeats 4000000
/-! Terms as tuples of nodes. -/
namespace Wk
open PySem L2 Dl Lam
def enc : Tm → List D
  | .var n => [.int (n : Int)]
  | .lam b => .str "lam" :: enc b
  | .app f x => .str "app" :: (enc f ++ enc x)
theorem enc_len : ∀ t : Tm, (enc t).length = size t
  | .var n => rfl
  | .lam b => by simp only [enc, List.length_cons, size, enc_len b]
  | .app f x => by simp only [enc, List.length_cons, List.length_append, size, enc_len f, enc_len x]
abbrev encs (ts : List Tm) : List D := ts.flatMap enc
def sizes (ts : List Tm) : Nat := (ts.map size).sum
theorem encs_cons (t : Tm) (ts : List Tm) : encs (t :: ts) = enc t ++ encs ts := by simp [encs]
theorem sizes_cons (t : Tm) (ts : List Tm) : sizes (t :: ts) = size t + sizes ts := by simp [sizes]
theorem encs_len : ∀ ts : List Tm, (encs ts).length = sizes ts
  | [] => rfl
  | t :: ts => by rw [encs_cons, List.length_append, enc_len, encs_len ts, sizes_cons]
theorem get_mid {a b : List D} {x : D} : (a ++ x :: b)[a.length]? = some x := by simp
theorem atI_mid {a b : List D} {x : D} {n : Int} (h : n = (a.length : Int)) : atI (a ++ x :: b) n = some x := by
  rw [h]; exact atI_pos get_mid
theorem str_ne1 : decide (("lam" : Str) = "app") = false := by decide +kernel
theorem str_ne2 : decide (("app" : Str) = "lam") = false := by decide +kernel
theorem str_eq1 : decide (("lam" : Str) = "lam") = true := by decide +kernel
theorem str_eq2 : decide (("app" : Str) = "app") = true := by decide +kernel
section
variable {K : PySem.W.Frag} {C : Addr}
theorem eq_la : OpD K C rEq (.str "lam") (.str "app") (fun d => d = .bl false) := o_eqS (.str _) (.str _) rfl ((decSS _ _).trans str_ne1)
theorem eq_al : OpD K C rEq (.str "app") (.str "lam") (fun d => d = .bl false) := o_eqS (.str _) (.str _) rfl ((decSS _ _).trans str_ne2)
theorem eq_ll : OpD K C rEq (.str "lam") (.str "lam") (fun d => d = .bl true) := o_eqS (.str _) (.str _) rfl ((decSS _ _).trans str_eq1)
theorem eq_aa : OpD K C rEq (.str "app") (.str "app") (fun d => d = .bl true) := o_eqS (.str _) (.str _) rfl ((decSS _ _).trans str_eq2)
theorem ne_la : OpD K C rNe (.str "lam") (.str "app") (fun d => d = .bl true) := o_neS (.str _) (.str _) rfl (by rw [decSS, str_ne1]; rfl)
theorem ne_al : OpD K C rNe (.str "app") (.str "lam") (fun d => d = .bl true) := o_neS (.str _) (.str _) rfl (by rw [decSS, str_ne2]; rfl)
theorem ne_ll : OpD K C rNe (.str "lam") (.str "lam") (fun d => d = .bl false) := o_neS (.str _) (.str _) rfl (by rw [decSS, str_eq1]; rfl)
theorem ne_aa : OpD K C rNe (.str "app") (.str "app") (fun d => d = .bl false) := o_neS (.str _) (.str _) rfl (by rw [decSS, str_eq2]; rfl)
end
end Wk
end
section
set_option Elab.async false
set_option autoImplicit false
set_option linter.all false
set_option maxRecDepth 100000
set_option maxHeartbeats 4000000
/-! Where a part ends: end_of, end_of_head, _law_end. -/
namespace Wk
open PySem L2 Dl Lam
structure GEnd where
  a : List D
  t : Tm
  b : List D
abbrev aEnd (g : GEnd) : List Sl := [.im (.tup (g.a ++ enc g.t ++ g.b)), .im (.int (g.a.length : Int))]
abbrev pEnd (g : GEnd) (d : D) : Prop := d = .int ((g.a.length + size g.t : Nat) : Int)
def sp_end_of (K : PySem.W.Frag) (C : Addr) : Sp := spG K C 2 aEnd (fun _ => True) pEnd
def sp_end_of_head (K : PySem.W.Frag) (C : Addr) : Sp := spG K C 2 aEnd (fun _ => True) pEnd
def sp__law_end (K : PySem.W.Frag) (C : Addr) : Sp := spG K C 2 aEnd (fun _ => True) pEnd
abbrev s_end_of : Stmt := topS 9
abbrev n_end_of : List Str := ["nodes", "start", "missing", "at", "node"]
theorem sc_end_of : FnScope n_end_of ["nodes", "start"] (defScope s_end_of) := ⟨rfl, rfl, rfl, by decide +kernel, rfl, by decide +kernel, by decide +kernel⟩
-- calls: []; level 1; slots: 0:nodes 1:start 2:missing 3:at 4:node
def t_end_of (K : PySem.W.Frag) (C : Addr) : TS := tSeq (tAsg (tC (.int 1)) (gName 2)) (tSeq (tAsg (tVar 1) (gName 3)) (tSeq (tWhile (tTest (tOp (rGtI) (tVar 2) (tC (.int 0)))) (tSeq (tAsg (tOp (rIx K) (tVar 0) (tVar 3)) (gName 4)) (tSeq (tIfS (tTest (tOp (rEq) (tVar 4) (tC (.str "app")))) (tAug 2 (tC (.int 1)) (ipI fun i j => i + j)) (tIfS (tB (tIsi K (tVar 4) "int")) (tAug 2 (tC (.int 1)) (ipI fun i j => i - j)) (tNext))) (tAug 3 (tC (.int 1)) (ipI fun i j => i + j))))) (tRet (tVar 3))))
abbrev s_end_of_head : Stmt := topS 21
abbrev n_end_of_head : List Str := ["term", "start", "missing", "at"]
theorem sc_end_of_head : FnScope n_end_of_head ["term", "start"] (defScope s_end_of_head) := ⟨rfl, rfl, rfl, by decide +kernel, rfl, by decide +kernel, by decide +kernel⟩
-- calls: []; level 1; slots: 0:term 1:start 2:missing 3:at
def t_end_of_head (K : PySem.W.Frag) (C : Addr) : TS := tSeq (tAsg (tC (.int 1)) (gName 2)) (tSeq (tAsg (tVar 1) (gName 3)) (tSeq (tWhile (tTest (tOp (rGtI) (tVar 2) (tC (.int 0)))) (tSeq (tIfS (tTest (tOp (rEq) (tOp (rIx K) (tVar 0) (tVar 3)) (tC (.str "app")))) (tAug 2 (tC (.int 1)) (ipI fun i j => i + j)) (tIfS (tTest (tOp (rNe) (tOp (rIx K) (tVar 0) (tVar 3)) (tC (.str "lam")))) (tAug 2 (tC (.int 1)) (ipI fun i j => i - j)) (tNext))) (tAug 3 (tC (.int 1)) (ipI fun i j => i + j)))) (tRet (tVar 3))))
abbrev s__law_end : Stmt := topS 57
abbrev n__law_end : List Str := ["_law_term", "_law_at", "_law_missing", "_law_node"]
theorem sc__law_end : FnScope n__law_end ["_law_term", "_law_at"] (defScope s__law_end) := ⟨rfl, rfl, rfl, by decide +kernel, rfl, by decide +kernel, by decide +kernel⟩
-- calls: []; level 1; slots: 0:_law_term 1:_law_at 2:_law_missing 3:_law_node
def t__law_end (K : PySem.W.Frag) (C : Addr) : TS := tSeq (tAsg (tC (.int 1)) (gName 2)) (tSeq (tWhile (tTest (tOp (rGtI) (tVar 2) (tC (.int 0)))) (tSeq (tAsg (tOp (rIx K) (tVar 0) (tVar 1)) (gName 3)) (tSeq (tIfS (tTest (tOp (rEq) (tVar 3) (tC (.str "app")))) (tAsg (tOp (rAddI) (tVar 2) (tC (.int 1))) (gName 2)) (tIfS (tTest (tOp (rNe) (tVar 3) (tC (.str "lam")))) (tAsg (tOp (rSubI) (tVar 2) (tC (.int 1))) (gName 2)) (tNext))) (tAsg (tOp (rAddI) (tVar 1) (tC (.int 1))) (gName 1))))) (tRet (tVar 1)))
theorem encs_var (p b : List D) (n : Nat) (ts : List Tm) : p ++ encs (.var n :: ts) ++ b = (p ++ [.int (n : Int)]) ++ encs ts ++ b := by simp [encs_cons, enc]
theorem encs_lam (p b : List D) (c : Tm) (ts : List Tm) : p ++ encs (.lam c :: ts) ++ b = (p ++ [.str "lam"]) ++ encs (c :: ts) ++ b := by simp [encs_cons, enc]
theorem encs_app (p b : List D) (f x : Tm) (ts : List Tm) : p ++ encs (.app f x :: ts) ++ b = (p ++ [.str "app"]) ++ encs (f :: x :: ts) ++ b := by simp [encs_cons, enc]
theorem mid_var {w : List D} {p b : List D} {n : Nat} {ts : List Tm} {i : Int} (e : w = p ++ encs (.var n :: ts) ++ b) (h : i = (p.length : Int)) : atI w i = some (.int (n : Int)) := by
  rw [e, encs_var]; simp only [List.append_assoc, List.cons_append, List.nil_append]; exact atI_mid h
theorem mid_lam {w : List D} {p b : List D} {c : Tm} {ts : List Tm} {i : Int} (e : w = p ++ encs (.lam c :: ts) ++ b) (h : i = (p.length : Int)) : atI w i = some (.str "lam") := by
  rw [e, encs_lam]; simp only [List.append_assoc, List.cons_append, List.nil_append]; exact atI_mid h
theorem mid_app {w : List D} {p b : List D} {f x : Tm} {ts : List Tm} {i : Int} (e : w = p ++ encs (.app f x :: ts) ++ b) (h : i = (p.length : Int)) : atI w i = some (.str "app") := by
  rw [e, encs_app]; simp only [List.append_assoc, List.cons_append, List.nil_append]; exact atI_mid h
/-- where the loop stands: p is read, ts are to be read -/
def InvE (w b : List D) (all : Nat) (m : Nat) (p : List D) (ts : List Tm) (mi ai : Int) : Prop :=
  w = p ++ encs ts ++ b ∧ p.length + sizes ts = all ∧ m = sizes ts ∧ mi = (ts.length : Int) ∧ ai = (p.length : Int)
theorem InvE.start (a : List D) (t : Tm) (b : List D) : InvE (a ++ enc t ++ b) b (a.length + size t) (size t) a [t] 1 (a.length : Int) := by
  refine ⟨by simp [encs], by simp [sizes], by simp [sizes], rfl, rfl⟩
theorem InvE.var {w b : List D} {all m : Nat} {p : List D} {n : Nat} {ts : List Tm} {mi ai : Int} (h : InvE w b all m p (.var n :: ts) mi ai) : ∃ m', m' < m ∧ InvE w b all m' (p ++ [.int (n : Int)]) ts (mi - 1) (ai + 1) := by
  obtain ⟨h1, h2, h3, h4, h5⟩ := h
  rw [sizes_cons] at h2 h3
  simp only [size] at h2 h3
  exact ⟨sizes ts, by omega, by rw [h1, encs_var], by simp <;> omega, rfl, by rw [h4]; simp, by rw [h5]; simp⟩
theorem InvE.lam {w b : List D} {all m : Nat} {p : List D} {c : Tm} {ts : List Tm} {mi ai : Int} (h : InvE w b all m p (.lam c :: ts) mi ai) : ∃ m', m' < m ∧ InvE w b all m' (p ++ [.str "lam"]) (c :: ts) mi (ai + 1) := by
  obtain ⟨h1, h2, h3, h4, h5⟩ := h
  rw [sizes_cons] at h2 h3
  simp only [size] at h2 h3
  exact ⟨sizes (c :: ts), by rw [sizes_cons]; omega, by rw [h1, encs_lam], by rw [sizes_cons]; simp; omega, rfl, by rw [h4]; simp, by rw [h5]; simp⟩
theorem InvE.app {w b : List D} {all m : Nat} {p : List D} {f x : Tm} {ts : List Tm} {mi ai : Int} (h : InvE w b all m p (.app f x :: ts) mi ai) : ∃ m', m' < m ∧ InvE w b all m' (p ++ [.str "app"]) (f :: x :: ts) (mi + 1) (ai + 1) := by
  obtain ⟨h1, h2, h3, h4, h5⟩ := h
  rw [sizes_cons] at h2 h3
  simp only [size] at h2 h3
  exact ⟨sizes (f :: x :: ts), by rw [sizes_cons, sizes_cons]; omega, by rw [h1, encs_app], by rw [sizes_cons, sizes_cons]; simp; omega, rfl, by rw [h4]; simp, by rw [h5]; simp⟩
theorem InvE.done {w b : List D} {all m : Nat} {p : List D} {ts : List Tm} {mi ai : Int} (h : InvE w b all m p ts mi ai) (hb : decide ((0 : Int) < mi) = false) : ai = ((all : Nat) : Int) := by
  obtain ⟨h1, h2, h3, h4, h5⟩ := h
  have : ts = [] := by
    cases ts with
    | nil => rfl
    | cons t ts => have := of_decide_eq_false hb; rw [h4] at this; simp at this
  subst this
  rw [h5, ← h2]
  simp [sizes]
theorem InvE.more {w b : List D} {all m : Nat} {p : List D} {ts : List Tm} {mi ai : Int} (h : InvE w b all m p ts mi ai) (hb : decide ((0 : Int) < mi) = true) : ∃ t r, ts = t :: r := by
  obtain ⟨h1, h2, h3, h4, h5⟩ := h
  cases ts with
  | nil => have := of_decide_eq_true hb; rw [h4] at this; simp at this
  | cons t ts => exact ⟨t, ts, rfl⟩
theorem c_end_of (K : PySem.W.Frag) (C : Addr) (g : GEnd) (_ : True) (_ : (aEnd g).length = 2) :
    CmD K C (t_end_of K C) (aEnd g ++ List.replicate (n_end_of.length - 2) .un) (fun _ => pEnd g .non) (pEnd g) no no := by
  obtain ⟨a, t, b⟩ := g
  refine q_set e_int (q_set (e_var rfl) ?_)
  refine q_while (fun m S1 => ∃ (p : List D) (ts : List Tm) (mi ai : Int) (z : Sl), InvE (a ++ enc t ++ b) b (a.length + size t) m p ts mi ai ∧
      S1 = [.im (.tup (a ++ enc t ++ b)), .im (.int (a.length : Int)), .im (.int mi), .im (.int ai), z]) no (size t)
    ⟨a, [t], _, _, .un, .start a t b, rfl⟩ ?_ (fun _ h => h.elim)
  rintro m S1 ⟨p, ts, mi, ai, z, hi, rfl⟩
  refine ⟨_, t_testV (v_op (e_var rfl) e_int o_gt), fun hb => ?_, fun hb => ?_⟩
  · obtain ⟨u, ts, rfl⟩ := hi.more hb.symm
    cases u with
    | var n =>
      obtain ⟨m', hm, hi'⟩ := hi.var
      exact q_set (v_op (e_var rfl) (e_var rfl) (o_ixT (mid_var hi.1 hi.2.2.2.2))) (q_no (t_testV (v_op (e_var rfl) e_str o_eqIS)) (q_yes (t_bV (v_isiI (e_var rfl))) (q_aug rfl e_int (c_aug rfl e_int ⟨m', hm, _, ts, _, _, _, hi', rfl⟩))))
    | lam c =>
      obtain ⟨m', hm, hi'⟩ := hi.lam
      exact q_set (v_op (e_var rfl) (e_var rfl) (o_ixT (mid_lam hi.1 hi.2.2.2.2))) (q_no (t_testV (v_op (e_var rfl) e_str eq_la)) (q_no (t_bV (v_isiS (e_var rfl))) (q_next (c_aug rfl e_int ⟨m', hm, _, _, _, _, _, hi', rfl⟩))))
    | app f x =>
      obtain ⟨m', hm, hi'⟩ := hi.app
      exact q_set (v_op (e_var rfl) (e_var rfl) (o_ixT (mid_app hi.1 hi.2.2.2.2))) (q_yes (t_testV (v_op (e_var rfl) e_str eq_aa)) (q_aug rfl e_int (c_aug rfl e_int ⟨m', hm, _, _, _, _, _, hi', rfl⟩)))
  · exact c_retV (e_var rfl) (by rw [hi.done hb.symm])
theorem ok_end_of {P : Program} {w : World} {K : PySem.W.Frag} {mg : Str → Option Value} {base : Heap} {C aI f : Addr} {fd : FuncData} (X : Tx K mg C aI) (F : Fun K "end_of" "end_of" s_end_of f fd) (hm : mg "end_of" = some (.ref f))  :
    Df P w K mg base 1 "end_of" ["nodes", "start"] (sp_end_of K C) :=
  df_mk hm F.kp (F.binds fun _ _ _ _ _ _ us hl => match us, hl with | [_, _], _ => rfl) (F.ok sc_end_of spG_len fun cdv A outer s H vs Q E hr h => ⟨t_end_of K C, pss_cons (ps_set (i := 2) sc_end_of.nd rfl (by first | exact Or.inl rfl | exact Or.inr rfl) (pe_int)) (pss_cons (ps_set (i := 3) sc_end_of.nd rfl (by first | exact Or.inl rfl | exact Or.inr rfl) (pv 1)) (pss_cons (ps_while PassesOwn.never (pt_cmpR (op_gt) (pv 2) (pe_int) (nomark _)) (pss_cons (ps_set (i := 4) sc_end_of.nd rfl (by first | exact Or.inl rfl | exact Or.inr rfl) (pe_ix ix_seq (pv 0) (pv 3) (fun _ _ => rfl))) (pss_cons (ps_if (pt_cmpR (op_eq) (pv 4) (pe_str) (nomark _)) (pss_one (ps_aug (i := 2) sc_end_of.nd rfl (by first | exact Or.inl rfl | exact Or.inr rfl) (pe_int) ip_add)) (pss_one (ps_if (pt_val (pe_callB call_isi (by rfl) X.isinstance (by decide +kernel) (pa_cons (pv 4) (pa_cons (pe_bltn (v := .ty "int") (by rfl) X.int (by decide +kernel) rfl) pa_nil)))) (pss_one (ps_aug (i := 2) sc_end_of.nd rfl (by first | exact Or.inl rfl | exact Or.inr rfl) (pe_int) ip_sub)) (pss_nil)))) (pss_one (ps_aug (i := 3) sc_end_of.nd rfl (by first | exact Or.inl rfl | exact Or.inr rfl) (pe_int) ip_add))))) (pss_one (ps_ret (pv 3))))), run_of (E := E) (c_end_of K C) h⟩)
theorem c_end_of_head (K : PySem.W.Frag) (C : Addr) (g : GEnd) (_ : True) (_ : (aEnd g).length = 2) :
    CmD K C (t_end_of_head K C) (aEnd g ++ List.replicate (n_end_of_head.length - 2) .un) (fun _ => pEnd g .non) (pEnd g) no no := by
  obtain ⟨a, t, b⟩ := g
  refine q_set e_int (q_set (e_var rfl) ?_)
  refine q_while (fun m S1 => ∃ (p : List D) (ts : List Tm) (mi ai : Int), InvE (a ++ enc t ++ b) b (a.length + size t) m p ts mi ai ∧
      S1 = [.im (.tup (a ++ enc t ++ b)), .im (.int (a.length : Int)), .im (.int mi), .im (.int ai)]) no (size t)
    ⟨a, [t], _, _, .start a t b, rfl⟩ ?_ (fun _ h => h.elim)
  rintro m S1 ⟨p, ts, mi, ai, hi, rfl⟩
  refine ⟨_, t_testV (v_op (e_var rfl) e_int o_gt), fun hb => ?_, fun hb => ?_⟩
  · obtain ⟨u, ts, rfl⟩ := hi.more hb.symm
    cases u with
    | var n =>
      obtain ⟨m', hm, hi'⟩ := hi.var
      have hx := mid_var hi.1 hi.2.2.2.2
      exact q_no (t_testV (v_op (v_op (e_var rfl) (e_var rfl) (o_ixT hx)) e_str o_eqIS)) (q_yes (t_testV (v_op (v_op (e_var rfl) (e_var rfl) (o_ixT hx)) e_str o_neIS)) (q_aug rfl e_int (c_aug rfl e_int ⟨m', hm, _, ts, _, _, hi', rfl⟩)))
    | lam c =>
      obtain ⟨m', hm, hi'⟩ := hi.lam
      have hx := mid_lam hi.1 hi.2.2.2.2
      exact q_no (t_testV (v_op (v_op (e_var rfl) (e_var rfl) (o_ixT hx)) e_str eq_la)) (q_no (t_testV (v_op (v_op (e_var rfl) (e_var rfl) (o_ixT hx)) e_str ne_ll)) (q_next (c_aug rfl e_int ⟨m', hm, _, _, _, _, hi', rfl⟩)))
    | app f x =>
      obtain ⟨m', hm, hi'⟩ := hi.app
      have hx := mid_app hi.1 hi.2.2.2.2
      exact q_yes (t_testV (v_op (v_op (e_var rfl) (e_var rfl) (o_ixT hx)) e_str eq_aa)) (q_aug rfl e_int (c_aug rfl e_int ⟨m', hm, _, _, _, _, hi', rfl⟩))
  · exact c_retV (e_var rfl) (by rw [hi.done hb.symm])
theorem ok_end_of_head {P : Program} {w : World} {K : PySem.W.Frag} {mg : Str → Option Value} {base : Heap} {C aI f : Addr} {fd : FuncData} (X : Tx K mg C aI) (F : Fun K "end_of_head" "end_of_head" s_end_of_head f fd) (hm : mg "end_of_head" = some (.ref f))  :
    Df P w K mg base 1 "end_of_head" ["term", "start"] (sp_end_of_head K C) :=
  df_mk hm F.kp (F.binds fun _ _ _ _ _ _ us hl => match us, hl with | [_, _], _ => rfl) (F.ok sc_end_of_head spG_len fun cdv A outer s H vs Q E hr h => ⟨t_end_of_head K C, pss_cons (ps_set (i := 2) sc_end_of_head.nd rfl (by first | exact Or.inl rfl | exact Or.inr rfl) (pe_int)) (pss_cons (ps_set (i := 3) sc_end_of_head.nd rfl (by first | exact Or.inl rfl | exact Or.inr rfl) (pv 1)) (pss_cons (ps_while PassesOwn.never (pt_cmpR (op_gt) (pv 2) (pe_int) (nomark _)) (pss_cons (ps_if (pt_cmpR (op_eq) (pe_ix ix_seq (pv 0) (pv 3) (fun _ _ => rfl)) (pe_str) (nomark _)) (pss_one (ps_aug (i := 2) sc_end_of_head.nd rfl (by first | exact Or.inl rfl | exact Or.inr rfl) (pe_int) ip_add)) (pss_one (ps_if (pt_cmpR (op_ne) (pe_ix ix_seq (pv 0) (pv 3) (fun _ _ => rfl)) (pe_str) (nomark _)) (pss_one (ps_aug (i := 2) sc_end_of_head.nd rfl (by first | exact Or.inl rfl | exact Or.inr rfl) (pe_int) ip_sub)) (pss_nil)))) (pss_one (ps_aug (i := 3) sc_end_of_head.nd rfl (by first | exact Or.inl rfl | exact Or.inr rfl) (pe_int) ip_add)))) (pss_one (ps_ret (pv 3))))), run_of (E := E) (c_end_of_head K C) h⟩)
theorem c__law_end (K : PySem.W.Frag) (C : Addr) (g : GEnd) (_ : True) (_ : (aEnd g).length = 2) :
    CmD K C (t__law_end K C) (aEnd g ++ List.replicate (n__law_end.length - 2) .un) (fun _ => pEnd g .non) (pEnd g) no no := by
  obtain ⟨a, t, b⟩ := g
  refine q_set e_int ?_
  refine q_while (fun m S1 => ∃ (p : List D) (ts : List Tm) (mi ai : Int) (z : Sl), InvE (a ++ enc t ++ b) b (a.length + size t) m p ts mi ai ∧
      S1 = [.im (.tup (a ++ enc t ++ b)), .im (.int ai), .im (.int mi), z]) no (size t)
    ⟨a, [t], _, _, .un, .start a t b, rfl⟩ ?_ (fun _ h => h.elim)
  rintro m S1 ⟨p, ts, mi, ai, z, hi, rfl⟩
  refine ⟨_, t_testV (v_op (e_var rfl) e_int o_gt), fun hb => ?_, fun hb => ?_⟩
  · obtain ⟨u, ts, rfl⟩ := hi.more hb.symm
    cases u with
    | var n =>
      obtain ⟨m', hm, hi'⟩ := hi.var
      exact q_set (v_op (e_var rfl) (e_var rfl) (o_ixT (mid_var hi.1 hi.2.2.2.2))) (q_no (t_testV (v_op (e_var rfl) e_str o_eqIS)) (q_yes (t_testV (v_op (e_var rfl) e_str o_neIS)) (q_set (v_op (e_var rfl) e_int o_sub) (c_asgV (v_op (e_var rfl) e_int o_add) ⟨m', hm, _, ts, _, _, _, hi', rfl⟩))))
    | lam c =>
      obtain ⟨m', hm, hi'⟩ := hi.lam
      exact q_set (v_op (e_var rfl) (e_var rfl) (o_ixT (mid_lam hi.1 hi.2.2.2.2))) (q_no (t_testV (v_op (e_var rfl) e_str eq_la)) (q_no (t_testV (v_op (e_var rfl) e_str ne_ll)) (q_next (c_asgV (v_op (e_var rfl) e_int o_add) ⟨m', hm, _, _, _, _, _, hi', rfl⟩))))
    | app f x =>
      obtain ⟨m', hm, hi'⟩ := hi.app
      exact q_set (v_op (e_var rfl) (e_var rfl) (o_ixT (mid_app hi.1 hi.2.2.2.2))) (q_yes (t_testV (v_op (e_var rfl) e_str eq_aa)) (q_set (v_op (e_var rfl) e_int o_add) (c_asgV (v_op (e_var rfl) e_int o_add) ⟨m', hm, _, _, _, _, _, hi', rfl⟩)))
  · exact c_retV (e_var rfl) (by rw [hi.done hb.symm])
theorem ok__law_end {P : Program} {w : World} {K : PySem.W.Frag} {mg : Str → Option Value} {base : Heap} {C aI f : Addr} {fd : FuncData} (X : Tx K mg C aI) (F : Fun K "_law_end" "_law_end" s__law_end f fd) (hm : mg "_law_end" = some (.ref f))  :
    Df P w K mg base 1 "_law_end" ["_law_term", "_law_at"] (sp__law_end K C) :=
  df_mk hm F.kp (F.binds fun _ _ _ _ _ _ us hl => match us, hl with | [_, _], _ => rfl) (F.ok sc__law_end spG_len fun cdv A outer s H vs Q E hr h => ⟨t__law_end K C, pss_cons (ps_set (i := 2) sc__law_end.nd rfl (by first | exact Or.inl rfl | exact Or.inr rfl) (pe_int)) (pss_cons (ps_while PassesOwn.never (pt_cmpR (op_gt) (pv 2) (pe_int) (nomark _)) (pss_cons (ps_set (i := 3) sc__law_end.nd rfl (by first | exact Or.inl rfl | exact Or.inr rfl) (pe_ix ix_seq (pv 0) (pv 1) (fun _ _ => rfl))) (pss_cons (ps_if (pt_cmpR (op_eq) (pv 3) (pe_str) (nomark _)) (pss_one (ps_set (i := 2) sc__law_end.nd rfl (by first | exact Or.inl rfl | exact Or.inr rfl) (pe_op op_add (pv 2) (pe_int)))) (pss_one (ps_if (pt_cmpR (op_ne) (pv 3) (pe_str) (nomark _)) (pss_one (ps_set (i := 2) sc__law_end.nd rfl (by first | exact Or.inl rfl | exact Or.inr rfl) (pe_op op_sub (pv 2) (pe_int)))) (pss_nil)))) (pss_one (ps_set (i := 1) sc__law_end.nd rfl (by first | exact Or.inl rfl | exact Or.inr rfl) (pe_op op_add (pv 1) (pe_int))))))) (pss_one (ps_ret (pv 1)))), run_of (E := E) (c__law_end K C) h⟩)
end Wk
end
section
set_option Elab.async false
set_option autoImplicit false
set_option linter.all false
set_option maxRecDepth 100000
set_option maxHeartbeats 4000000
/-! Loops by what is left. -/
namespace Dl
open PySem L2
section
variable {K : PySem.W.Frag} {C : Addr} {S : List Sl} {N M Bk Ct : List Sl → Prop} {R : D → Prop} {t u tb : TS} {te : TE} {P : D → Prop} {i j : Nat} {wi : TI} {g : TG}
theorem c_forR {items : List D} (hI : ItD K C wi S items) (Inv : List D → List Sl → Prop) (h0 : Inv items S)
    (hs : ∀ d r S1, Inv (d :: r) S1 → ∃ S2, TgD K C g d S1 S2 ∧ CmD K C tb S2 (Inv r) R N (Inv r)) (hd : ∀ S1, Inv [] S1 → N S1) : CmD K C (tFor wi g tb) S N R Bk Ct :=
  c_for hI (fun i S1 => Inv (items.drop i) S1) (by rw [List.drop_zero]; exact h0) (fun i d S1 e h => by
    obtain ⟨hl, e2⟩ := List.getElem?_eq_some_iff.mp e
    rw [List.drop_eq_getElem_cons hl, e2] at h
    exact hs d _ S1 h) fun S1 h => hd S1 (by rw [List.drop_length] at h; exact h)
theorem q_forR {items : List D} (hI : ItD K C wi S items) (Inv : List D → List Sl → Prop) (Brk : List Sl → Prop) (h0 : Inv items S)
    (hs : ∀ d r S1, Inv (d :: r) S1 → ∃ S2, TgD K C g d S1 S2 ∧ CmD K C tb S2 (Inv r) R Brk (Inv r)) (hd : ∀ S1, Inv [] S1 → CmD K C u S1 N R Bk Ct) (hb : ∀ S1, Brk S1 → CmD K C u S1 N R Bk Ct) : CmD K C (tSeq (tFor wi g tb) u) S N R Bk Ct :=
  q_for hI (fun i S1 => Inv (items.drop i) S1) Brk (by rw [List.drop_zero]; exact h0) (fun i d S1 e h => by
    obtain ⟨hl, e2⟩ := List.getElem?_eq_some_iff.mp e
    rw [List.drop_eq_getElem_cons hl, e2] at h
    exact hs d _ S1 h) (fun S1 h => hd S1 (by rw [List.drop_length] at h; exact h)) hb
/-- [f x for x in .. if t], both by values -/
theorem v_lcm {wi : TI} {tt : TT} {te : TE} {j : Nat} {items : List D} (f : D → Option D) (hI : ItD K C wi S items) (hj : S[j]? = some .un)
    (hs : ∀ d, d ∈ items → ∃ b : Bool, TsD K C tt (S.set j (.im d)) (fun x => x = b) ∧ (b = true → ∃ y, f d = some y ∧ VlD K C te (S.set j (.im d)) y) ∧ (b = false → f d = none)) (hn : items.length ≤ 1000000) :
    VlD K C (tLc wi (gName j) tt te [j]) S (.lst (items.filterMap f)) := by
  refine (e_lc1 hI hj (fun i acc => acc = (items.take i).filterMap f) (by simp) (fun i d acc e ha => ?_) hn).mono fun d ⟨acc, e, h, _⟩ => by rw [e, h, List.take_length]
  obtain ⟨b, h1, h2, h3⟩ := hs d (List.mem_of_getElem? e)
  refine ⟨_, h1, fun eb => ?_, fun eb => ?_⟩
  · obtain ⟨y, hy, v⟩ := h2 eb.symm
    refine v.mono fun z ez => ?_
    rw [ez, ha, List.take_add_one, e, List.filterMap_append]
    simp [hy]
  · rw [ha, List.take_add_one, e, List.filterMap_append]
    simp [h3 eb.symm]
theorem t_yes : TsD K C tYes S (fun b => b = true) := fun Z B H σ Q hh q => q true B H rfl (.refl hh)
theorem v_lcs {wi : TI} {te : TE} {j : Nat} {items : List D} (f : D → D) (hI : ItD K C wi S items) (hj : S[j]? = some .un) (hs : ∀ d, d ∈ items → VlD K C te (S.set j (.im d)) (f d)) (hn : items.length ≤ 1000000) :
    VlD K C (tLc wi (gName j) tYes te [j]) S (.lst (items.map f)) := by
  have h := v_lcm (tt := tYes) (fun d => some (f d)) hI hj (fun d hd => ⟨true, t_yes, fun _ => ⟨_, rfl, hs d hd⟩, fun e => by cases e⟩) hn
  rw [List.filterMap_eq_map'] at h
  exact h
/-- the same, own -/
theorem n_lcs {wi : TI} {te : TE} {j : Nat} {items : List D} (f : D → D) (hI : ItD K C wi S items) (hj : S[j]? = some .un) (hs : ∀ d, d ∈ items → VlD K C te (S.set j (.im d)) (f d)) (hn : items.length ≤ 1000000) :
    EvN K C (tLc wi (gName j) tYes te [j]) S (fun acc => acc = items.map f) := by
  refine (n_lc1 hI hj (fun i acc => acc = (items.take i).map f) (by simp) (fun i d acc e ha => ⟨_, t_yes, fun _ => ?_, fun e => by cases e⟩) hn).mono fun acc ⟨h, _⟩ => by rw [h, List.take_length]
  refine (hs d (List.mem_of_getElem? e)).mono fun z ez => ?_
  rw [ez, ha, List.take_add_one, e, List.map_append]
  rfl
theorem q_own {u : TS} {te : TE} {P : List D → Prop} {i : Nat} {N Bk Ct : List Sl → Prop} {R : D → Prop} (h : EvN K C te S P) (k : ∀ acc, P acc → CmD K C u (S.set i (.ml acc)) N R Bk Ct) : CmD K C (tSeq (tAsg te (gName i)) u) S N R Bk Ct :=
  c_seq (M := fun S' => ∃ acc, P acc ∧ S' = S.set i (.ml acc)) (c_own h fun acc p => ⟨acc, p, rfl⟩) fun S' ⟨acc, p, e⟩ => by rw [e]; exact k acc p
/-- [e for x, y in ..] -/
theorem v_lcs2 {wi : TI} {te : TE} {j k : Nat} {items : List D} (f : D → D) (hI : ItD K C wi S items) (hj : S[j]? = some .un) (hk : S[k]? = some .un) (hjk : j ≠ k)
    (hs : ∀ d, d ∈ items → ∃ x y, d = .tup [x, y] ∧ VlD K C te ((S.set j (.im x)).set k (.im y)) (f d)) (hn : items.length ≤ 1000000) :
    VlD K C (tLc wi (gTup K 2 (gCons (gName j) (gCons (gName k) gNil))) tYes te [j, k]) S (.lst (items.map f)) := by
  refine (e_lc2 hI hj hk hjk (fun i acc => acc = (items.take i).map f) (by simp) (fun i d acc e ha => ?_) hn).mono fun d ⟨acc, e, h, _⟩ => by rw [e, h, List.take_length]
  obtain ⟨x, y, h1, h2⟩ := hs d (List.mem_of_getElem? e)
  refine ⟨x, y, h1, _, t_yes, fun _ => h2.mono fun z ez => ?_, fun eb => by cases eb⟩
  rw [ez, ha, List.take_add_one, e, List.map_append]
  rfl
end
end Dl
end
section
set_option Elab.async false
set_option autoImplicit false
set_option linter.all false
set_option maxRecDepth 100000
set_option maxHeartbeats 4000000
/-! Depths: depths, _law_depths, uses, placed_nodes. -/
namespace Wk
open PySem L2 Dl Lam
def dep : Nat → Tm → List Nat
  | d, .var _ => [d]
  | d, .lam b => d :: dep (d + 1) b
  | d, .app f x => d :: (dep d f ++ dep d x)
theorem dep_len : ∀ (t : Tm) (d : Nat), (dep d t).length = size t
  | .var n, d => rfl
  | .lam b, d => by simp only [dep, List.length_cons, size, dep_len b]
  | .app f x, d => by simp only [dep, List.length_cons, List.length_append, size, dep_len f, dep_len x]
def deps : List Tm → List Nat → List Nat
  | t :: ts, w :: ws => dep w t ++ deps ts ws
  | _, _ => []
abbrev dI (ns : List Nat) : List D := ns.map fun (n : Nat) => D.int (n : Int)
abbrev wI (ws : List Nat) : List D := dI ws.reverse
theorem wI_cons (w : Nat) (ws : List Nat) : wI (w :: ws) = wI ws ++ [.int (w : Int)] := by simp [wI, dI]
abbrev sp_deps (K : PySem.W.Frag) (C : Addr) : Sp := spG K C 1 (fun t : Tm => [.im (.tup (enc t))]) (fun t => size t < 1000000) (fun t d => d = .lst (dI (dep 0 t)))
def sp_depths (K : PySem.W.Frag) (C : Addr) : Sp := sp_deps K C
def sp__law_depths (K : PySem.W.Frag) (C : Addr) : Sp := sp_deps K C
abbrev s_depths : Stmt := topS 10
abbrev n_depths : List Str := ["nodes", "found", "waiting", "node", "depth"]
theorem sc_depths : FnScope n_depths ["nodes"] (defScope s_depths) := ⟨rfl, rfl, rfl, by decide +kernel, rfl, by decide +kernel, by decide +kernel⟩
-- calls: []; level 1; slots: 0:nodes 1:found 2:waiting 3:node 4:depth
def t_depths (K : PySem.W.Frag) (C : Addr) : TS := tSeq (tAsg (tLst (tNil)) (gName 1)) (tSeq (tAsg (tLst (tCons (tC (.int 0)) (tNil))) (gName 2)) (tSeq (tFor (iTup K (tVar 0)) (gName 3) (tSeq (tAsg (tBM0 K "list" rPop (tVar 2)) (gName 4)) (tSeq (tDrop (tBM K "list" (rAppend) (tVar 1) (tCons (tVar 4) (tNil)))) (tIfS (tTest (tOp (rEq) (tVar 3) (tC (.str "app")))) (tSeq (tDrop (tBM K "list" (rAppend) (tVar 2) (tCons (tVar 4) (tNil)))) (tDrop (tBM K "list" (rAppend) (tVar 2) (tCons (tVar 4) (tNil))))) (tIfS (tNot (tB (tIsi K (tVar 3) "int"))) (tDrop (tBM K "list" (rAppend) (tVar 2) (tCons (tOp (rAddI) (tVar 4) (tC (.int 1))) (tNil)))) (tNext)))))) (tRet (tVar 1))))
abbrev s__law_depths : Stmt := topS 58
abbrev n__law_depths : List Str := ["_law_term", "_law_found", "_law_waiting", "_law_node", "_law_depth"]
theorem sc__law_depths : FnScope n__law_depths ["_law_term"] (defScope s__law_depths) := ⟨rfl, rfl, rfl, by decide +kernel, rfl, by decide +kernel, by decide +kernel⟩
-- calls: []; level 1; slots: 0:_law_term 1:_law_found 2:_law_waiting 3:_law_node 4:_law_depth
def t__law_depths (K : PySem.W.Frag) (C : Addr) : TS := tSeq (tAsg (tLst (tNil)) (gName 1)) (tSeq (tAsg (tLst (tCons (tC (.int 0)) (tNil))) (gName 2)) (tSeq (tFor (iTup K (tVar 0)) (gName 3) (tSeq (tAsg (tBM0 K "list" rPop (tVar 2)) (gName 4)) (tSeq (tDrop (tBM K "list" (rAppend) (tVar 1) (tCons (tVar 4) (tNil)))) (tIfS (tTest (tOp (rEq) (tVar 3) (tC (.str "app")))) (tSeq (tDrop (tBM K "list" (rAppend) (tVar 2) (tCons (tVar 4) (tNil)))) (tDrop (tBM K "list" (rAppend) (tVar 2) (tCons (tVar 4) (tNil))))) (tIfS (tTest (tOp (rEq) (tVar 3) (tC (.str "lam")))) (tDrop (tBM K "list" (rAppend) (tVar 2) (tCons (tOp (rAddI) (tVar 4) (tC (.int 1))) (tNil)))) (tNext)))))) (tRet (tVar 1))))
theorem encs_nil {ts : List Tm} (h : ([] : List D) = encs ts) : ts = [] := by
  cases ts with
  | nil => rfl
  | cons t ts => rw [encs_cons] at h; cases t <;> simp [enc] at h
/-- where a walk over the nodes stands -/
structure InvD (all : List Nat) (n : Nat) (r : List D) (ts : List Tm) (ws acc : List Nat) : Prop where
  r : r = encs ts
  l : ws.length = ts.length
  a : acc ++ deps ts ws = all
  n : acc.length + sizes ts = n
theorem InvD.start (t : Tm) : InvD (dep 0 t) (size t) (enc t) [t] [0] [] := ⟨by simp [encs], rfl, by simp [deps], by simp [sizes]⟩
theorem InvD.cons {all : List Nat} {n : Nat} {d : D} {r : List D} {ts : List Tm} {ws acc : List Nat} (h : InvD all n (d :: r) ts ws acc) : ∃ w ws', ws = w :: ws' ∧
    ((∃ v us, ts = .var v :: us ∧ d = .int (v : Int) ∧ InvD all n r us ws' (acc ++ [w])) ∨ (∃ b us, ts = .lam b :: us ∧ d = .str "lam" ∧ InvD all n r (b :: us) ((w + 1) :: ws') (acc ++ [w])) ∨
      (∃ f x us, ts = .app f x :: us ∧ d = .str "app" ∧ InvD all n r (f :: x :: us) (w :: w :: ws') (acc ++ [w]))) := by
  obtain ⟨h1, h2, h3, h4⟩ := h
  cases ts with
  | nil => simp [encs] at h1
  | cons t us =>
    cases ws with
    | nil => simp at h2
    | cons w ws' =>
      refine ⟨w, ws', rfl, ?_⟩
      rw [encs_cons] at h1
      rw [sizes_cons] at h4
      simp only [List.length_cons, Nat.add_right_cancel_iff] at h2
      cases t with
      | var v =>
        simp only [enc, List.cons_append, List.nil_append, List.cons.injEq] at h1
        refine .inl ⟨v, us, rfl, h1.1, h1.2, h2, ?_, ?_⟩
        · rw [← h3]; simp [deps, dep]
        · simp only [size] at h4; simp; omega
      | lam b =>
        simp only [enc, List.cons_append, List.nil_append, List.cons.injEq] at h1
        refine .inr (.inl ⟨b, us, rfl, h1.1, by rw [encs_cons]; exact h1.2, by simp [h2], ?_, ?_⟩)
        · rw [← h3]; simp [deps, dep]
        · rw [sizes_cons]; simp only [size] at h4; simp; omega
      | app f x =>
        simp only [enc, List.cons_append, List.nil_append, List.cons.injEq] at h1
        refine .inr (.inr ⟨f, x, us, rfl, h1.1, by rw [encs_cons, encs_cons, ← List.append_assoc]; exact h1.2, by simp [h2], ?_, ?_⟩)
        · rw [← h3]; simp [deps, dep]
        · rw [sizes_cons, sizes_cons]; simp only [size] at h4; simp; omega
theorem InvD.done {all : List Nat} {n : Nat} {ts : List Tm} {ws acc : List Nat} (h : InvD all n [] ts ws acc) : acc = all := by
  have e := encs_nil h.r
  subst e
  rw [← h.a]
  simp [deps]
theorem dI_len (ns : List Nat) : (dI ns).length = ns.length := by simp
theorem dI_snoc (ns : List Nat) (w : Nat) : dI (ns ++ [w]) = dI ns ++ [.int (w : Int)] := by simp [dI]
theorem tsn {n : Nat} : ((n : Int) + 1) = ((n + 1 : Nat) : Int) := by simp
def InvDw (n : Nat) (ws : List Nat) : Prop := ws.length ≤ n
theorem deps_bound {all : List Nat} {n : Nat} {r : List D} {ts : List Tm} {ws acc : List Nat} (h : InvD all n r ts ws acc) : ws.length ≤ n := by
  have a : ∀ us : List Tm, us.length ≤ sizes us := fun us => by
    induction us with
    | nil => simp [sizes]
    | cons u us ih => rw [sizes_cons, List.length_cons]; have := size_pos u; omega
  have := a ts
  have h2 := h.l
  have h4 := h.n
  omega
theorem c_depths (K : PySem.W.Frag) (C : Addr) (t : Tm) (hs : size t < 1000000) (_ : ([.im (.tup (enc t))] : List Sl).length = 1) :
    CmD K C (t_depths K C) ([.im (.tup (enc t))] ++ List.replicate (n_depths.length - 1) .un) (fun _ => (.non : D) = .lst (dI (dep 0 t))) (fun d => d = .lst (dI (dep 0 t))) no no := by
  refine q_lst0 (q_lst (ds := [.int 0]) (a_consV e_int a_nil) ?_)
  refine q_forR (it_tup (e_var rfl)) (fun r S1 => ∃ ts ws acc z1 z2, InvD (dep 0 t) (size t) r ts ws acc ∧ S1 = [.im (.tup (enc t)), .ml (dI acc), .ml (wI ws), z1, z2]) no ⟨[t], [0], [], _, _, .start t, rfl⟩ ?_ ?_ (fun _ h => h.elim)
  · rintro d r S1 ⟨ts, ws, acc, z1, z2, hi, rfl⟩
    refine ⟨_, tg_name, ?_⟩
    have hb := deps_bound hi
    have hn := hi.n
    obtain ⟨w, ws', rfl, ⟨v, us, rfl, rfl, h⟩ | ⟨b, us, rfl, rfl, h⟩ | ⟨f, x, us, rfl, rfl, h⟩⟩ := hi.cons
    · refine q_pop (d := .int (w : Int)) (ds := wI ws') (by rw [wI_cons]; rfl) (q_app rfl (e_var rfl) (by rw [dI_len]; omega) ?_)
      refine c_no (t_testV (v_op (e_var rfl) e_str o_eqIS)) (c_no (t_notV (t_bV (v_isiI (e_var rfl)))) (c_next ⟨us, ws', _, .im (.int (v : Int)), .im (.int (w : Int)), h, ?_⟩))
      rw [dI_snoc]; rfl
    · refine q_pop (d := .int (w : Int)) (ds := wI ws') (by rw [wI_cons]; rfl) (q_app rfl (e_var rfl) (by rw [dI_len]; omega) ?_)
      refine c_no (t_testV (v_op (e_var rfl) e_str eq_la)) (c_yes (t_notV (t_bV (v_isiS (e_var rfl)))) (c_app rfl (v_op (e_var rfl) e_int o_add) (by simp at hb; simp; omega) ⟨_, _, _, .im (.str "lam"), .im (.int (w : Int)), h, ?_⟩))
      simp only [dI_snoc, wI_cons, tsn]; rfl
    · refine q_pop (d := .int (w : Int)) (ds := wI ws') (by rw [wI_cons]; rfl) (q_app rfl (e_var rfl) (by rw [dI_len]; omega) ?_)
      refine c_yes (t_testV (v_op (e_var rfl) e_str eq_aa)) (q_app rfl (e_var rfl) (by simp at hb; simp; omega) (c_app rfl (e_var rfl) (by simp at hb; simp; omega) ⟨_, _, _, .im (.str "app"), .im (.int (w : Int)), h, ?_⟩))
      simp only [dI_snoc, wI_cons]; rfl
  · rintro S1 ⟨ts, ws, acc, z1, z2, hi, rfl⟩
    rw [hi.done]
    exact c_retL rfl rfl
theorem ok_depths {P : Program} {w : World} {K : PySem.W.Frag} {mg : Str → Option Value} {base : Heap} {C aI f : Addr} {fd : FuncData} (X : Tx K mg C aI) (F : Fun K "depths" "depths" s_depths f fd) (hm : mg "depths" = some (.ref f))  :
    Df P w K mg base 1 "depths" ["nodes"] (sp_depths K C) :=
  df_mk hm F.kp (F.binds fun _ _ _ _ _ _ us hl => match us, hl with | [_], _ => rfl) (F.ok sc_depths spG_len fun cdv A outer s H vs Q E hr h => ⟨t_depths K C, pss_cons (ps_set (i := 1) sc_depths.nd rfl (by first | exact Or.inl rfl | exact Or.inr rfl) (pe_lst (pa_nil))) (pss_cons (ps_set (i := 2) sc_depths.nd rfl (by first | exact Or.inl rfl | exact Or.inr rfl) (pe_lst (pa_cons (pe_int) (pa_nil)))) (pss_cons (ps_for PassesOwn.never rfl (pi_tup (pv 0)) (pg_name (i := 3) sc_depths.nd rfl (by first | exact Or.inl rfl | exact Or.inr rfl)) (pss_cons (ps_set (i := 4) sc_depths.nd rfl (by first | exact Or.inl rfl | exact Or.inr rfl) (pe_bm0 PySem.F.plainAttrs_list PySem.F.slot_list_pop PySem.F.type_list_pop mt_pop (pv 2))) (pss_cons (ps_expr (pe_bm PySem.F.plainAttrs_list PySem.F.slot_list_append PySem.F.type_list_append mt_append (pv 1) (pa_cons (pv 4) (pa_nil)))) (pss_one (ps_if (pt_cmpR (op_eq) (pv 3) (pe_str) (nomark _)) (pss_cons (ps_expr (pe_bm PySem.F.plainAttrs_list PySem.F.slot_list_append PySem.F.type_list_append mt_append (pv 2) (pa_cons (pv 4) (pa_nil)))) (pss_one (ps_expr (pe_bm PySem.F.plainAttrs_list PySem.F.slot_list_append PySem.F.type_list_append mt_append (pv 2) (pa_cons (pv 4) (pa_nil)))))) (pss_one (ps_if (pt_not (pt_val (pe_callB call_isi (by rfl) X.isinstance (by decide +kernel) (pa_cons (pv 3) (pa_cons (pe_bltn (v := .ty "int") (by rfl) X.int (by decide +kernel) rfl) pa_nil))))) (pss_one (ps_expr (pe_bm PySem.F.plainAttrs_list PySem.F.slot_list_append PySem.F.type_list_append mt_append (pv 2) (pa_cons (pe_op op_add (pv 4) (pe_int)) (pa_nil))))) (pss_nil)))))))) (pss_one (ps_ret (pv 1))))), run_of (E := E) (c_depths K C) h⟩)
theorem c__law_depths (K : PySem.W.Frag) (C : Addr) (t : Tm) (hs : size t < 1000000) (_ : ([.im (.tup (enc t))] : List Sl).length = 1) :
    CmD K C (t__law_depths K C) ([.im (.tup (enc t))] ++ List.replicate (n__law_depths.length - 1) .un) (fun _ => (.non : D) = .lst (dI (dep 0 t))) (fun d => d = .lst (dI (dep 0 t))) no no := by
  refine q_lst0 (q_lst (ds := [.int 0]) (a_consV e_int a_nil) ?_)
  refine q_forR (it_tup (e_var rfl)) (fun r S1 => ∃ ts ws acc z1 z2, InvD (dep 0 t) (size t) r ts ws acc ∧ S1 = [.im (.tup (enc t)), .ml (dI acc), .ml (wI ws), z1, z2]) no ⟨[t], [0], [], _, _, .start t, rfl⟩ ?_ ?_ (fun _ h => h.elim)
  · rintro d r S1 ⟨ts, ws, acc, z1, z2, hi, rfl⟩
    refine ⟨_, tg_name, ?_⟩
    have hb := deps_bound hi
    have hn := hi.n
    obtain ⟨w, ws', rfl, ⟨v, us, rfl, rfl, h⟩ | ⟨b, us, rfl, rfl, h⟩ | ⟨f, x, us, rfl, rfl, h⟩⟩ := hi.cons
    · refine q_pop (d := .int (w : Int)) (ds := wI ws') (by rw [wI_cons]; rfl) (q_app rfl (e_var rfl) (by rw [dI_len]; omega) ?_)
      refine c_no (t_testV (v_op (e_var rfl) e_str o_eqIS)) (c_no (t_testV (v_op (e_var rfl) e_str o_eqIS)) (c_next ⟨us, ws', _, .im (.int (v : Int)), .im (.int (w : Int)), h, ?_⟩))
      rw [dI_snoc]; rfl
    · refine q_pop (d := .int (w : Int)) (ds := wI ws') (by rw [wI_cons]; rfl) (q_app rfl (e_var rfl) (by rw [dI_len]; omega) ?_)
      refine c_no (t_testV (v_op (e_var rfl) e_str eq_la)) (c_yes (t_testV (v_op (e_var rfl) e_str eq_ll)) (c_app rfl (v_op (e_var rfl) e_int o_add) (by simp at hb; simp; omega) ⟨_, _, _, .im (.str "lam"), .im (.int (w : Int)), h, ?_⟩))
      simp only [dI_snoc, wI_cons, tsn]; rfl
    · refine q_pop (d := .int (w : Int)) (ds := wI ws') (by rw [wI_cons]; rfl) (q_app rfl (e_var rfl) (by rw [dI_len]; omega) ?_)
      refine c_yes (t_testV (v_op (e_var rfl) e_str eq_aa)) (q_app rfl (e_var rfl) (by simp at hb; simp; omega) (c_app rfl (e_var rfl) (by simp at hb; simp; omega) ⟨_, _, _, .im (.str "app"), .im (.int (w : Int)), h, ?_⟩))
      simp only [dI_snoc, wI_cons]; rfl
  · rintro S1 ⟨ts, ws, acc, z1, z2, hi, rfl⟩
    rw [hi.done]
    exact c_retL rfl rfl
theorem ok__law_depths {P : Program} {w : World} {K : PySem.W.Frag} {mg : Str → Option Value} {base : Heap} {C aI f : Addr} {fd : FuncData} (X : Tx K mg C aI) (F : Fun K "_law_depths" "_law_depths" s__law_depths f fd) (hm : mg "_law_depths" = some (.ref f))  :
    Df P w K mg base 1 "_law_depths" ["_law_term"] (sp__law_depths K C) :=
  df_mk hm F.kp (F.binds fun _ _ _ _ _ _ us hl => match us, hl with | [_], _ => rfl) (F.ok sc__law_depths spG_len fun cdv A outer s H vs Q E hr h => ⟨t__law_depths K C, pss_cons (ps_set (i := 1) sc__law_depths.nd rfl (by first | exact Or.inl rfl | exact Or.inr rfl) (pe_lst (pa_nil))) (pss_cons (ps_set (i := 2) sc__law_depths.nd rfl (by first | exact Or.inl rfl | exact Or.inr rfl) (pe_lst (pa_cons (pe_int) (pa_nil)))) (pss_cons (ps_for PassesOwn.never rfl (pi_tup (pv 0)) (pg_name (i := 3) sc__law_depths.nd rfl (by first | exact Or.inl rfl | exact Or.inr rfl)) (pss_cons (ps_set (i := 4) sc__law_depths.nd rfl (by first | exact Or.inl rfl | exact Or.inr rfl) (pe_bm0 PySem.F.plainAttrs_list PySem.F.slot_list_pop PySem.F.type_list_pop mt_pop (pv 2))) (pss_cons (ps_expr (pe_bm PySem.F.plainAttrs_list PySem.F.slot_list_append PySem.F.type_list_append mt_append (pv 1) (pa_cons (pv 4) (pa_nil)))) (pss_one (ps_if (pt_cmpR (op_eq) (pv 3) (pe_str) (nomark _)) (pss_cons (ps_expr (pe_bm PySem.F.plainAttrs_list PySem.F.slot_list_append PySem.F.type_list_append mt_append (pv 2) (pa_cons (pv 4) (pa_nil)))) (pss_one (ps_expr (pe_bm PySem.F.plainAttrs_list PySem.F.slot_list_append PySem.F.type_list_append mt_append (pv 2) (pa_cons (pv 4) (pa_nil)))))) (pss_one (ps_if (pt_cmpR (op_eq) (pv 3) (pe_str) (nomark _)) (pss_one (ps_expr (pe_bm PySem.F.plainAttrs_list PySem.F.slot_list_append PySem.F.type_list_append mt_append (pv 2) (pa_cons (pe_op op_add (pv 4) (pe_int)) (pa_nil))))) (pss_nil)))))))) (pss_one (ps_ret (pv 1))))), run_of (E := E) (c__law_depths K C) h⟩)
end Wk
end
section
set_option Elab.async false
set_option autoImplicit false
set_option linter.all false
set_option maxRecDepth 100000
set_option maxHeartbeats 4000000
/-! A tuple of one item, repeated any number of times (none and once too). -/
namespace Dx
open PySem PySem.Spec PyProof.Rows L2
theorem mul_once (l : Addr) (items : Array Value) (n : Nat) (dd : Option Addr) (sl : Array (Option Value)) (u : Tok) :
    Meets (Builtin.«tuple.__mul__» ⟨[.ref l, .int 1 u], []⟩) (fun _ R s => s.heap.get? l = some { cls := .type "tuple", dict := dd, data := .seq items n, slots := sl } ∧ R (.ok (.ret (Value.ref l))) s) :=
  .of_wp fun prog w A R s h => by
    obtain ⟨hp, g, d, tk, os⟩ := s
    obtain ⟨hl, h⟩ := h
    have f1 := AutoSeq1.idx_int
    wp_walk using wpAny_loadPart' hl
    exact ⟨_, rfl, h⟩
theorem mul_none (l : Addr) (items : Array Value) (n : Nat) (dd : Option Addr) (sl : Array (Option Value)) (u : Tok) (hi : items.isEmpty = false) :
    Meets (Builtin.«tuple.__mul__» ⟨[.ref l, .int 0 u], []⟩) (fun _ R s => s.heap.get? l = some { cls := .type "tuple", dict := dd, data := .seq items n, slots := sl } ∧
      R (.ok (.ret (Value.ref s.heap.objs.size))) { s with heap := s.heap.push { cls := Value.type "tuple", data := Data.seq #[] }, toks := s.toks }) :=
  .of_wp fun prog w A R s h => by
    obtain ⟨hp, g, d, tk, os⟩ := s
    obtain ⟨hl, h⟩ := h
    have f1 := AutoSeq1.idx_int
    have c1 : (items.isEmpty || (0 : Int) == 1) = false := by rw [hi]; rfl
    wp_walk using wpAny_loadPart' hl
    repeat (first
      | (refine wpAny_ite_false (decide_eq_false (by rw [c1]; exact Bool.false_ne_true)) ?_; wp_walk using wpAny_loadPart' hl))
    exact ⟨_, rfl, h⟩
def rRepA (K : PySem.W.Frag) : R2 := fun x y H Q => ∃ l k xs, x = .ref l ∧ y = .int k ∧ SqT K H l xs ∧ xs ≠ [] ∧ 0 ≤ k ∧ k ≤ 1000 ∧ xs.length ≤ 1000 ∧
  (k = 1 → Q (.ref l) H) ∧ (k ≠ 1 → ∀ p, H p = none → Q (.ref p) (upd H p (.tup (List.replicate k.toNat xs).flatten)))
section
variable {X : Cx}
theorem op_repA : OpR X (binaryOp .Mult) (rRepA X.K) := by
  intro pins s σ H x y v u Q I rx ry h
  obtain ⟨l, k, xs, rfl, rfl, hT, hne, h1, h2, hz, q1, q2⟩ := h
  by_cases k2 : 2 ≤ k
  · exact op_repT pins s σ H _ _ v u Q I rx ry ⟨l, k, xs, rfl, rfl, hT, hne, k2, h2, hz, q2 (by omega)⟩
  cases rx
  obtain ⟨t, rfl⟩ := ry
  obtain ⟨its, r, ⟨⟨cls, dd, data, sl⟩, ho, hc, n, hd⟩, hs⟩ := I.tuple hT
  simp only at hc hd
  subst hc hd
  have hi : its.toArray.isEmpty = false := by
    cases its with
    | nil => cases r; exact absurd rfl hne
    | cons a b => rfl
  by_cases k1 : k = 1
  · subst k1
    refine wpAny_binaryOp_repeat_ref (T := "tuple") (U := "int") (by decide) ⟨_, ho, rfl⟩ (fun s' => typeIs_int s' 1 t) noFill_tuple_mul F.fills_int_mul F.slot_int_rmul repeat_tuple F.slot_int_index.lookup
      (call_meets F.slot_int_rmul (typeIs_int s 1 t) F.entry_int_rmul (F.args_int_rmul_2 _ _) (int_rmul_tuple 1 t l its.toArray n dd sl)
        ⟨ho, rfl, ⟨_, ho, rfl⟩, call_meets F.slot_tuple_mul ⟨_, ho, rfl⟩ F.entry_tuple_mul (F.args_tuple_mul_2 _ _) (mul_once l its.toArray n dd sl t) ⟨ho, ?_⟩⟩)
    exact ⟨.ref l, H, I, rfl, q1 rfl⟩
  · have k0 : k = 0 := by omega
    subst k0
    refine wpAny_binaryOp_repeat_ref (T := "tuple") (U := "int") (by decide) ⟨_, ho, rfl⟩ (fun s' => typeIs_int s' 0 t) noFill_tuple_mul F.fills_int_mul F.slot_int_rmul repeat_tuple F.slot_int_index.lookup
      (call_meets F.slot_int_rmul (typeIs_int s 0 t) F.entry_int_rmul (F.args_int_rmul_2 _ _) (int_rmul_tuple 0 t l its.toArray n dd sl)
        ⟨ho, rfl, ⟨_, ho, rfl⟩, call_meets F.slot_tuple_mul ⟨_, ho, rfl⟩ F.entry_tuple_mul (F.args_tuple_mul_2 _ _) (mul_none l its.toArray n dd sl t hi) ⟨ho, ?_⟩⟩)
    refine ⟨.ref s.heap.objs.size, _, I.laid (t' := s.toks) (o := .tup []) (fun b ob q => Heap.get?_push_of_some _ q) (Nat.le_refl _) ?_, rfl, q2 (by decide) _ (I.hok.fresh (Nat.le_refl _))⟩
    exact ⟨Nat.zero_le _, [], .nil, IsTup.new _ _⟩
end
end Dx
end
section
set_option Elab.async false
set_option autoImplicit false
set_option linter.all false
set_option maxRecDepth 100000
set_option maxHeartbeats 4000000
/-! zip of a tuple and a list; is of a truth value and None. -/
namespace Dx
open PySem PySem.Spec PyProof.Rows L2
theorem draws_tup {prog : Program} {w : World} {A : Around} (hh : A.handled = none) (it l : Addr) (hne : l ≠ it) (items : Array Value) :
    Draws prog w A it [it, l] items.size (fun i x => items[i]? = some x) (fun i h => h.IsTupleIter it l i ∧ h.IsTuple l items) where
  live := fun i h st => by
    obtain ⟨⟨o, ho, _⟩, _⟩ := st
    exact ⟨o, ho⟩
  frame := fun i h h' st k => ⟨st.1.at (k it (by simp)), st.2.at (k l (by simp))⟩
  item := fun i s Q E hi st hQ => by
    have hx : items[i]? = some items[i] := by simp [hi]
    refine RZ.nextOf_tuple_item st.1 st.2 hx fun h' hit hs => ?_
    exact hQ _ h' s.toks hx ⟨hit, st.2.at fun o e => hs.extBut l o hne e⟩ hs
  done := fun s Q E st hE => RZ.nextOf_tuple_end hh st.1 st.2 (by simp) hE
/-- the turns of zip over a tuple at a and a list at b -/
def ItzM (K : PySem.W.Frag) (a b : Addr) : It :=
  ⟨fun i H => ∃ (xs ys : List V) (x y : V), SqT K H a xs ∧ SqL K H b ys ∧ xs[i]? = some x ∧ ys[i]? = some y,
    fun i H v H' => ∃ T x y, v = .ref T ∧ H T = none ∧ H' = upd H T (.tup [x, y]) ∧ (∀ xs, SqT K H a xs → xs[i]? = some x) ∧ ∀ ys, SqL K H b ys → ys[i]? = some y,
    fun i H => ∃ xs ys : List V, SqT K H a xs ∧ SqL K H b ys ∧ i = xs.length ∧ i = ys.length⟩
structure Sep (z TI TO i1 i2 a b : Addr) : Prop where
  S : ZipSep2 z TI TO i1 i2 [i1, a] [i2, b]
  ne1 : a ≠ i1
  ne2 : b ≠ i2
theorem five {c z TI TO i1 i2 : Addr} (h : c ∈ [z, TI, TO, i1, i2]) : c = z ∨ c = TI ∨ c = TO ∨ c = i1 ∨ c = i2 := by simpa using h
theorem turn_zipM {P : Program} {w : World} {K : PySem.W.Frag} {elts : List Expr} {kk : Nat} {tpos : Pos} {a b z TI TO i1 i2 : Addr} (D : Sep z TI TO i1 i2 a b) :
    Turn P w K (.Tuple elts kk tpos) (ItzM K a b) [z, TI, TO, i1, i2] z (fun i h => IsZip h z TI TO .none ∧ IsTupOf2 h TI (.ref i1) (.ref i2) ∧ (∃ x y, IsTupOf2 h TO x y) ∧ h.IsTupleIter i1 a i ∧ h.IsListIter i2 b i) where
  mem := by simp
  obj := fun i h st c hc => by
    obtain ⟨hz, hTI, ⟨x, y, hTO⟩, ⟨o1, e1, _, d1⟩, ⟨o2, e2, _, d2⟩⟩ := st
    rcases five hc with q | q | q | q | q
    · rw [q]; exact ⟨_, hz, fun v q => nomatch q⟩
    · rw [q]; exact ⟨_, hTI, fun v q => nomatch q⟩
    · rw [q]; exact ⟨_, hTO, fun v q => nomatch q⟩
    · rw [q]; exact ⟨o1, e1, fun v q => by rw [d1] at q; cases q⟩
    · rw [q]; exact ⟨o2, e2, fun v q => by rw [d2] at q; cases q⟩
  keep := fun i h h' st k => by
    obtain ⟨hz, hTI, ⟨x, y, hTO⟩, h1, h2⟩ := st
    exact ⟨k z (by simp) _ hz, k TI (by simp) _ hTI, ⟨x, y, k TO (by simp) _ hTO⟩, h1.at fun o q => k i1 (by simp) o q, h2.at fun o q => k i2 (by simp) o q⟩
  item := by
    intro X hP hw hK hc i pins s σ H E I hf st hg
    subst hP hw hK
    obtain ⟨hz, hTI, ⟨x0, y0, hTO⟩, h1, h2⟩ := st
    obtain ⟨xs, ys, x, y, hqx, hqy, hx, hy⟩ := hg
    obtain ⟨its, rv, p, _⟩ := I.tuple hqx
    obtain ⟨its2, rv2, p2, _⟩ := I.list hqy
    obtain ⟨u, hu, ru⟩ := rv.get hx
    obtain ⟨u2, hu2, ru2⟩ := rv2.get hy
    have hzl : z < s.heap.objs.size := Heap.lt_size hz
    have hh : X.A.in1.handled = none := I.ok.hd hc
    have l1 : i < its.toArray.size := by
      have := (List.getElem?_eq_some_iff.mp hu).1
      simpa using this
    have l2 : i < its2.toArray.size := by
      have := (List.getElem?_eq_some_iff.mp hu2).1
      simpa using this
    refine wpAny_pyNext_zipD2_item D.S (draws_tup hh i1 a D.ne1 its.toArray) (Draws.list hh i2 b D.ne2 its2.toArray) hz hTI hTO ⟨h1, p⟩ ⟨h2, p2.isList⟩ l1 l2 fun y1 y2 h' tk e1 e2 z' TO' st1' st2' hT hsz hk => ?_
    have ey1 : u = y1 := by
      have : its.toArray[i]? = some u := by simpa using hu
      rw [this] at e1; exact Option.some.inj e1
    have ey2 : u2 = y2 := by
      have : its2.toArray[i]? = some u2 := by simpa using hu2
      rw [this] at e2; exact Option.some.inj e2
    subst ey1 ey2
    refine ⟨_, rfl, wpAny_letOwnedTupleGo_zip (s := { s with heap := h', toks := tk }) z' fun h'' z'' sb => ?_⟩
    have hT2 : h''.get? s.heap.objs.size = some { cls := .type "tuple", data := .seq #[u, u2] } := (sb.2 _ (Nat.ne_of_gt hzl)).trans hT
    have new : ObjOk X.prog X.w (upd H s.heap.objs.size (.tup [x, y])) h'' s.heap.objs.size (.tup [x, y]) :=
      ⟨by show 2 ≤ sizeLine; decide, [u, u2], .cons ru (.cons ru2 .nil), ⟨_, hT2, rfl, _, rfl⟩⟩
    have I1 : Inv X pins σ (upd H s.heap.objs.size (.tup [x, y])) { s with heap := h'', toks := tk } :=
      I.turnedNew (t' := tk) (ch := [z, TI, TO, i1, i2]) (fun c o hb q => (sb.2 c (fun q' => hb (by simp [q']))).trans (hk c o (fun q' => hb (by simp [q'])) (fun q' => hb (by simp [q'])) (fun q' => hb (by simp [q'])) (fun q' => hb (by simp [q'])) q)) hf (Nat.le_refl _) new
    refine ⟨.ref s.heap.objs.size, _, I1, rfl, ⟨_, x, y, rfl, I.hok.fresh (Nat.le_refl _), rfl, fun l hl => by rw [I.tuple_inj hl hqx]; exact hx, fun l hl => by rw [I.list_inj hl hqy]; exact hy⟩, ⟨z'', ?_, ⟨u, u2, ?_⟩, ?_, ?_⟩, fun c hcm => ?_⟩
    · exact (sb.2 _ D.S.TIz).trans (hk _ _ D.S.TIz D.S.TITO D.S.TIi1 D.S.TIi2 hTI)
    · exact (sb.2 _ D.S.TOz).trans TO'
    · exact st1'.1.at fun o q => (sb.2 _ (Ne.symm D.S.zi1)).trans q
    · exact st2'.1.at fun o q => (sb.2 _ (Ne.symm D.S.zi2)).trans q
    · have hlt : c < s.heap.objs.size := by
        rcases five hcm with q | q | q | q | q
        · rw [q]; exact hzl
        · rw [q]; exact Heap.lt_size hTI
        · rw [q]; exact Heap.lt_size hTO
        · rw [q]; obtain ⟨_, e1, _⟩ := h1; exact Heap.lt_size e1
        · rw [q]; obtain ⟨_, e2, _⟩ := h2; exact Heap.lt_size e2
      rw [upd_ne (Nat.ne_of_lt hlt)]
      exact (hf c hcm).1
  done := by
    intro X hP hw hK hc i pins s σ H E I hf st hg
    subst hP hw hK
    obtain ⟨hz, hTI, ⟨x0, y0, hTO⟩, h1, h2⟩ := st
    obtain ⟨xs, ys, hqx, hqy, e1, e2⟩ := hg
    obtain ⟨its, rv, p, _⟩ := I.tuple hqx
    obtain ⟨its2, rv2, p2, _⟩ := I.list hqy
    have l1 := rv.length
    have l2 := rv2.length
    have hh : X.A.in1.handled = none := I.ok.hd hc
    have n1 : i = its.toArray.size := by rw [List.size_toArray]; omega
    have n2 : i = its2.toArray.size := by rw [List.size_toArray]; omega
    exact wpAny_pyNext_zipD2_end D.S (draws_tup hh i1 a D.ne1 its.toArray) (Draws.list hh i2 b D.ne2 its2.toArray) hz hTI hTO ⟨h1, p⟩ ⟨h2, p2.isList⟩ (Nat.le_of_eq n1) (Nat.le_of_eq n2) (.inl n1) fun h' tk hk =>
      ⟨rfl, I.turnedL (t' := tk) (ch := [z, TI, TO, i1, i2]) (fun c o hb q => hk c o (fun q' => hb (by simp [q'])) (fun q' => hb (by simp [q'])) (fun q' => hb (by simp [q'])) (fun q' => hb (by simp [q'])) q) hf⟩
  self := fun A i s Q E st h => wpAny_pyIter_zip st.1 h
theorem nin2 {x y z : Nat} (h1 : x ≠ y) (h2 : x ≠ z) : x ∉ [y, z] := by simp [h1, h2]
theorem sep_mk (n a b : Nat) (la : a < n) (lb : b < n) : Sep (n + 4) (n + 2) (n + 3) n (n + 1) a b := by
  have e1 : (n + 2 : Nat) ≠ n + 4 := by omega
  have e2 : (n + 3 : Nat) ≠ n + 4 := by omega
  have e3 : (n + 2 : Nat) ≠ n + 3 := by omega
  have e4 : (n + 2 : Nat) ≠ n := by omega
  have e5 : (n + 2 : Nat) ≠ n + 1 := by omega
  have f1 : (n + 4 : Nat) ∉ [n, a] := nin2 (by omega) (by omega)
  have f2 : (n + 3 : Nat) ∉ [n, a] := nin2 (by omega) (by omega)
  have f3 : (n + 4 : Nat) ∉ [n + 1, b] := nin2 (by omega) (by omega)
  have f4 : (n + 3 : Nat) ∉ [n + 1, b] := nin2 (by omega) (by omega)
  have f5 : (n : Nat) ∉ [n + 1, b] := nin2 (by omega) (by omega)
  have f6 : (n + 1 : Nat) ∉ [n, a] := nin2 (by omega) (by omega)
  exact ⟨⟨e1, e2, e3, e4, List.mem_cons_self, f1, f2, e5, List.mem_cons_self, f3, f4, f5, f6⟩, Nat.ne_of_lt la, Nat.ne_of_lt (Nat.lt_succ_of_lt lb)⟩
theorem five_le (n c : Nat) (h : c ∈ [n + 4, n + 2, n + 3, n, n + 1]) : n ≤ c := by
  simp at h
  omega
def iZipM (K : PySem.W.Frag) (ta : TA) : TI := fun σ H R => ta σ H fun vs H1 => ∃ a b xs ys, vs = [.ref a, .ref b] ∧ SqT K H1 a xs ∧ SqL K H1 b ys ∧ R (ItzM K a b) H1
theorem pi_zipM {X : Cx} {e e2 : Expr} {ta : TA} {p pos tpos : Pos} {elts : List Expr} {kk : Nat} (hg : Gl X "zip") (hm : X.mg "zip" = none) (ha : PA X [e, e2] ta)
    (hs : starEach [e, e2] X.env = (false, eval e X.env) :: starEach [e2] X.env := by rfl) (hpl : (backTo pos (starEach [e2] X.env)).any (·.1) = false := by rfl) :
    PI X (.Tuple elts kk tpos) (.Call (.Name "zip" p) [e, e2] [] pos) (iZipM X.K ta) := by
  refine ⟨fun pins s σ H R I h => ?_⟩
  refine Call_ (ld_blt I hg hm PyProof.Rows.boot_zip (PyProof.Rows.callWith_type1 (thn (ha.run pos pins s σ H _ I h) fun us s1 ⟨vs, H1, I1, r1, q1⟩ => ?_) hs hpl))
  obtain ⟨a, b, xs, ys, ex, hqx, hqy, q⟩ := q1
  subst ex
  cases r1 with
  | cons r rr =>
    cases rr with
    | cons r' rr =>
      cases rr
      cases r
      cases r'
      obtain ⟨its, rv, p1, _⟩ := I1.tuple hqx
      obtain ⟨its2, rv2, p2, _⟩ := I1.list hqy
      obtain ⟨oa, hoa, _⟩ := id p1
      have la : a < s1.heap.objs.size := Heap.lt_size hoa
      have lb : b < s1.heap.objs.size := p2.lt
      refine zip_begins2 (begins_tuple a its.toArray) (begins_list b its2.toArray) (show s1.heap.IsTuple a its.toArray from p1) p2.isList fun h' hz hTI hTO h1 h2 hsz hk => wpAny_pyIter_zip hz ?_
      have I2 : Inv X pins σ H1 { s1 with heap := h' } := I1.kept (t' := s1.toks) hk
      refine ⟨s1.heap.objs.size + 4, [s1.heap.objs.size + 4, s1.heap.objs.size + 2, s1.heap.objs.size + 3, s1.heap.objs.size, s1.heap.objs.size + 1], _, _, H1, rfl, I2, turn_zipM (a := a) (b := b) (sep_mk _ _ _ la lb), ⟨hz, hTI, ⟨_, _, hTO⟩, ⟨_, h1, rfl, rfl⟩, ⟨_, h2, rfl, rfl⟩⟩, fun c hcm => ?_, q⟩
      have hle : s1.heap.objs.size ≤ c := five_le _ _ hcm
      exact I1.fpOk hle (I1.hok.fresh hle)
/-! is -/
abbrev rIsBN : R2 := fun x y H Q => ∃ b : Bool, y = .bl b ∧ ((∃ a : Bool, x = .bl a ∧ Q (.bl (decide (a = b))) H) ∨ (x = .non ∧ Q (.bl false) H))
abbrev rNotBN : R2 := fun x y H Q => ∃ b : Bool, y = .bl b ∧ ((∃ a : Bool, x = .bl a ∧ Q (.bl (!decide (a = b))) H) ∨ (x = .non ∧ Q (.bl true) H))
theorem op_isBN {X : Cx} : OpR X (compareOp .Is) rIsBN := by
  intro pins s σ H x y v u Q I rx ry h
  obtain ⟨b, rfl, ⟨a, rfl, q⟩ | ⟨rfl, q⟩⟩ := h
  · exact op_is_bl pins s σ H _ _ v u Q I rx ry ⟨a, b, rfl, rfl, q⟩
  · cases rx
    cases (show u = Value.bool b from ry)
    exact wpAny_is_other rfl (fun z => nomatch z) ⟨.bl false, H, I, rfl, q⟩
theorem op_notBN {X : Cx} : OpR X (compareOp .IsNot) rNotBN := by
  intro pins s σ H x y v u Q I rx ry h
  obtain ⟨b, rfl, ⟨a, rfl, q⟩ | ⟨rfl, q⟩⟩ := h
  · exact op_isnot_bl pins s σ H _ _ v u Q I rx ry ⟨a, b, rfl, rfl, q⟩
  · cases rx
    cases (show u = Value.bool b from ry)
    exact wpAny_isNot_other rfl (fun z => nomatch z) ⟨.bl true, H, I, rfl, q⟩
end Dx
end
section
set_option Elab.async false
set_option autoImplicit false
set_option linter.all false
set_option maxRecDepth 100000
set_option maxHeartbeats 4000000
/-! max(xs, default=d) of ints; tuple(range(a, b, c)). -/
namespace Dx
open PySem PySem.Spec PyProof.Rows L2
def rMaxDef (K : PySem.W.Frag) : List V → List V → Hp → VK → Prop := fun xs zs H Q => ∃ (a : Addr) (ns : List Int) (d : Int), xs = [.ref a] ∧ zs = [.int d] ∧ SqL K H a (ns.map V.int) ∧
  (ns = [] → Q (.int d) H) ∧ ∀ m ∈ ns, (∀ y ∈ ns, y ≤ m) → Q (.int m) H
theorem maxOf_int : ∀ (ys : List Int) (y : Int), PySem.W.maxOf y ys ∈ y :: ys ∧ ∀ z ∈ y :: ys, z ≤ PySem.W.maxOf y ys
  | [], y => ⟨List.mem_cons_self, fun z hz => by
    rcases List.mem_cons.mp hz with e | e
    · subst e; exact Int.le_refl _
    · cases e⟩
  | x :: ys, y => by
    have e : PySem.W.maxOf y (x :: ys) = PySem.W.maxOf (if y < x then x else y) ys := by
      show List.foldl _ (if decide (y < x) = true then x else y) ys = _
      by_cases h : y < x
      · rw [if_pos (decide_eq_true h), if_pos h]; rfl
      · rw [if_neg (by simpa using h), if_neg h]; rfl
    rw [e]
    obtain ⟨h1, h2⟩ := maxOf_int ys (if y < x then x else y)
    by_cases h : y < x
    · rw [if_pos h] at h1 h2 ⊢
      refine ⟨List.mem_cons_of_mem _ h1, fun z hz => ?_⟩
      rcases List.mem_cons.mp hz with e | hz
      · subst e; exact Int.le_trans (Int.le_of_lt h) (h2 x List.mem_cons_self)
      · exact h2 z hz
    · rw [if_neg h] at h1 h2 ⊢
      refine ⟨?_, fun z hz => ?_⟩
      · rcases List.mem_cons.mp h1 with q | q
        · rw [q]; exact List.mem_cons_self
        · exact List.mem_cons_of_mem _ (List.mem_cons_of_mem _ q)
      · rcases List.mem_cons.mp hz with e | hz
        · subst e; exact h2 _ List.mem_cons_self
        · rcases List.mem_cons.mp hz with e | hz
          · subst e; exact Int.le_trans (by omega) (h2 y List.mem_cons_self)
          · exact h2 z (List.mem_cons_of_mem _ hz)
theorem ints_hold {h : Heap} : ∀ {us : List Value} {ns : List Int}, Vals (ns.map V.int) us → PySem.W.HoldAll h us ns
  | _, [], .nil => PySem.W.HoldAll.nil
  | _, n :: ns, r => by
    cases r with
    | cons r t =>
      obtain ⟨k, rfl⟩ := r
      exact PySem.W.HoldAll.cons (PySem.W.holds_int n k) (ints_hold t)
section
variable {X : Cx}
theorem cr_maxDef {k : Nat} (hc : X.calm = true) (hr : Room k X.A) : CallRK X (.builtin "max") [Str.ofString "default"] (rMaxDef X.K) := by
  intro pins s σ H vs zs us ws Q I r rz h
  obtain ⟨a, ns, d, rfl, rfl, hs, q0, q1⟩ := h
  obtain ⟨its, rv, hl, _⟩ := I.list hs
  rw [Vals.ref1 r]
  obtain ⟨w1, rfl, t0, rfl⟩ := vals1 rz
  refine PySem.W.max_list_datum_default (α := Int) (xs := ns) (I.ok.hd hc) hl.isList (ints_hold (by simpa using rv)) (by have := hr.un; show X.A.units + 1 + 0 < cLine; omega) (fun e h' tk hk => ?_) fun y ys i v h' tk e hi hv hk => ?_
  · exact ⟨.int d, H, I.kept hk, ⟨t0, rfl⟩, q0 e⟩
  · obtain ⟨h1, h2⟩ := maxOf_int ys y
    obtain ⟨as, hv⟩ := hv
    have hv2 : Reads h' v (.int (PySem.W.maxOf y ys)) as := hv
    cases hv2 with
    | int j t => exact ⟨.int _, H, I.kept hk, ⟨t, rfl⟩, q1 _ (by rw [e]; exact h1) (by rw [e]; exact h2)⟩
/-- range(a, b, c) as an argument of tuple -/
def tTupRng (ta : TA) : TE := fun σ H Q => ta σ H fun vs H1 => ∃ (i j c : Int) (n : Nat), vs = [.int i, .int j, .int c] ∧ RgC i j c n ∧ n ≤ 2 ^ 24 ∧ ∀ q, H1 q = none → Q (.ref q) (upd H1 q (.tup ((List.range n).map fun (k : Nat) => V.int (i + (k : Int) * c))))
theorem pe_tupRng {a b c : Expr} {ta : TA} {p pos p2 pos2 : Pos} (hc : X.calm = true) (hg : Gl X "tuple") (hm : X.mg "tuple" = none) (hg2 : Gl X "range") (hm2 : X.mg "range" = none) (ha : PA X [a, b, c] ta)
    (hs : starEach [a, b, c] X.env = (false, eval a X.env) :: starEach [b, c] X.env := by rfl) (hpl : (backTo pos2 (starEach [b, c] X.env)).any (·.1) = false := by rfl)
    (na : starEach [.Call (.Name "range" p2) [a, b, c] [] pos2] X.env = (false, eval (.Call (.Name "range" p2) [a, b, c] [] pos2) X.env) :: starEach [] X.env := by rfl) :
    PE X (.Call (.Name "tuple" p) [.Call (.Name "range" p2) [a, b, c] [] pos2] [] pos) (tTupRng ta) := by
  refine ⟨fun pins s σ H Q I h => ?_⟩
  refine Call_ (ld_blt I hg hm boot_tuple (PyProof.Rows.callWith_type1 (args_cons ?_ na) na))
  refine Call_ (ld_blt I hg2 hm2 boot_range (PyProof.Rows.callWith_type1 (thn (ha.run pos2 pins s σ H _ I h) fun us s1 ⟨vs, H1, I1, r1, q1⟩ => ?_) hs hpl))
  obtain ⟨i, j, k, n, e, ⟨c0, c1, c2, c3⟩, hn, q⟩ := q1
  subst e
  cases r1 with
  | cons r rr =>
    cases rr with
    | cons r' rr =>
      cases rr with
      | cons r'' rr =>
        cases rr
        obtain ⟨t, rfl⟩ := r
        obtain ⟨t', rfl⟩ := r'
        obtain ⟨t'', rfl⟩ := r''
        refine call_range_3 c0 ?_ (.inl (PyProof.noPylong_small c1))
        have I2 : Inv X pins σ H1 { s1 with heap := s1.heap.push { cls := .type "range", data := .fields #[.int i t, .int j t', .int k t''] } } := I1.kept (t' := s1.toks) fun b o e => Heap.get?_push_of_some _ e
        refine args_nil ?_
        refine call_tuple_range (n := n) (I2.ok.hd hc) (IsRange.new ..) c2 c3 hn fun h' tk acc hk hi => ?_
        have I3 : Inv X pins σ H1 { s1 with heap := h', toks := tk } := I2.kept hk
        have hlen : ((List.range n).map fun (m : Nat) => V.int (i + (m : Int) * k)).length = n := by rw [List.length_map, List.length_range]
        have rv : Vals ((List.range n).map fun (m : Nat) => V.int (i + (m : Int) * k)) acc.toList := by
          have e : acc.toList.length = n := by rw [Array.length_toList]; exact hi.1
          rw [← e]
          refine vals_of_get acc.toList _ fun m u hm => ?_
          obtain ⟨t, rfl⟩ := hi.2 m u (by rw [← hm, Array.getElem?_toList])
          exact ⟨t, rfl⟩
        refine ⟨.ref h'.objs.size, upd H1 h'.objs.size (.tup _), I3.laid (t' := tk) (fun c o e => Heap.get?_push_of_some _ e) (Nat.le_refl _) (show ObjOk X.prog X.w _ _ _ (.tup _) from ⟨?_, acc.toList, rv, ?_⟩), rfl, q _ (I3.hok.fresh (Nat.le_refl _))⟩
        · rw [hlen, sizeLine_eq]; exact hn
        · rw [Array.toArray_toList]; exact IsTup.new _ _
end
end Dx
end
section
set_option Elab.async false
set_option autoImplicit false
set_option linter.all false
set_option maxRecDepth 100000
set_option maxHeartbeats 4000000
/-! More operations over data: repeated tuples, zip, max with a default, tuple(range), is, deep ==. -/
namespace Dl
open PySem L2 Dx
section
variable {K : PySem.W.Frag} {C : Addr} {S : List Sl}
theorem o_rep {xs : List D} {k : Int} (h0 : xs ≠ []) (h1 : 0 ≤ k) (h2 : k ≤ 1000) (h3 : xs.length ≤ 1000) : OpD K C (rRepA K) (.tup xs) (.int k) (fun d => d = .tup (List.replicate k.toNat xs).flatten) := fun Z B H vx vy Q sm str r1 r2 q => by
  cases r1 with
  | @tup a vs _ ha ra =>
    cases r2
    refine ⟨a, k, vs, rfl, rfl, sameT sm ha, fun e => ?_, h1, h2, by rw [ra.length]; exact h3, fun e => ?_, fun _ p hp => ?_⟩
    · subst e; cases ra; exact h0 rfl
    · subst e
      have e2 : (List.replicate (1 : Int).toNat xs).flatten = xs := by simp
      rw [e2] at q
      exact q _ _ B H rfl ⟨.refl B, sm, .refl, .refl, str⟩ (.tup ha ra)
    · have P := Post.new (K := K) (Z := Z) (o := .tup (List.replicate k.toNat vs).flatten) sm str hp
      exact q _ _ _ _ rfl P (.tup (SqT.of upd_same) ((ra.rep _).mono P.sub))
theorem it_zipM {te tf : TE} {xs ys : List D} (h1 : VlD K C te S (.tup xs)) (h2 : VlD K C tf S (.lst ys)) (hl : xs.length = ys.length) : ItD K C (iZipM K (tCons te (tCons tf tNil))) S (xs.zipWith (fun x y => D.tup [x, y]) ys) := fun Z B H σ R hh q => by
  refine h1 Z B H σ _ hh fun v d B1 H1 p P1 r1 => ?_
  refine h2 Z B1 H1 σ _ (hh.post P1) fun w e B2 H2 p2 P2 r2 => ?_
  subst p p2
  have r1' := r1.mono P2.sub
  cases r1' with
  | @tup a vs _ ha ra =>
    cases r2 with
    | @lst b ws _ hb rb =>
      refine ⟨a, b, vs, ws, rfl, sameT P2.sub2 ha, SqL.of (P2.sub2 _ _ hb), q _ B2 H2 (P1.trans hh.str P2) fun i B3 H3 s1 s2 str => ?_⟩
      have hS : SqT K H3 a vs := sameT s2 (sameT s1 ha)
      have hq : H3 b = some (.lst ws) := s2 _ _ (s1 _ _ hb)
      have hL : SqL K H3 b ws := SqL.of hq
      refine ⟨fun e => ⟨vs, ws, hS, hL, ?_, ?_⟩, fun d e => ?_⟩
      · rw [List.length_zipWith] at e; rw [ra.length]; omega
      · rw [List.length_zipWith] at e; rw [rb.length]; omega
      · rw [List.getElem?_zipWith] at e
        cases e1 : xs[i]? with
        | none => rw [e1] at e; cases e
        | some x =>
          cases e2 : ys[i]? with
          | none => rw [e1, e2] at e; cases e
          | some y =>
            rw [e1, e2] at e
            cases e
            obtain ⟨u, eu, ru⟩ := ra.get e1
            obtain ⟨u2, eu2, ru2⟩ := rb.get e2
            refine ⟨⟨vs, ws, u, u2, hS, hL, eu, eu2⟩, ?_⟩
            rintro z H' ⟨T, y1, y2, rfl, hT, rfl, f1, f2⟩
            have g1 := f1 vs hS
            have g2 := f2 ws hL
            rw [eu] at g1
            rw [eu2] at g2
            cases g1
            cases g2
            have P := Post.new (K := K) (Z := Z) (o := .tup [u, u2]) s2 str hT
            exact ⟨_, P, .tup (SqT.of upd_same) (.cons ((ru.mono s1).mono P.sub) (.cons ((ru2.mono s1).mono P.sub) .nil))⟩
theorem v_maxDef {te : TE} {ns : List Int} {d m : Int} (h : VlD K C te S (.lst (ns.map D.int))) (h0 : ns = [] → m = d) (h1 : ns ≠ [] → m ∈ ns ∧ ∀ y ∈ ns, y ≤ m) :
    VlD K C (tCKw (rMaxDef K) (tCons te tNil) (tCons (tC (.int d)) tNil)) S (.int m) := fun Z B H σ Q hh q => by
  refine h Z B H σ _ hh fun v x B1 H1 p P1 r1 => ?_
  subst p
  cases r1 with
  | @lst a vs _ ha ra =>
    have e := ra.ints_inv
    subst e
    refine ⟨a, ns, d, rfl, rfl, SqL.of (P1.sub2 _ _ ha), fun e => ?_, fun k hk hle => ?_⟩
    · rw [← h0 e]; exact q _ _ B1 H1 rfl P1 (.int _)
    · have hne : ns ≠ [] := fun z => by subst z; cases hk
      obtain ⟨h2, h3⟩ := h1 hne
      have e : k = m := Int.le_antisymm (h3 k hk) (hle m h2)
      subst e
      exact q _ _ B1 H1 rfl P1 (.int _)
theorem v_tupRng {ta tb tc : TE} {i j c : Int} {n : Nat} (h1 : VlD K C ta S (.int i)) (h2 : VlD K C tb S (.int j)) (h3 : VlD K C tc S (.int c)) (hr : RgC i j c n) (hn : n ≤ 2 ^ 24) :
    VlD K C (tTupRng (tCons ta (tCons tb (tCons tc tNil)))) S (.tup ((List.range n).map fun (k : Nat) => .int (i + (k : Int) * c))) := fun Z B H σ Q hh q => by
  refine h1 Z B H σ _ hh fun v x B1 H1 p P1 r1 => ?_
  subst p
  cases r1
  refine h2 Z B1 H1 σ _ (hh.post P1) fun v x B2 H2 p P2 r2 => ?_
  subst p
  cases r2
  have P12 := P1.trans hh.str P2
  refine h3 Z B2 H2 σ _ (hh.post P12) fun v x B3 H3 p P3 r3 => ?_
  subst p
  cases r3
  have P13 := P12.trans hh.str P3
  refine ⟨i, j, c, n, rfl, hr, hn, fun p hp => ?_⟩
  have P := Post.new (K := K) (Z := Z) (o := .tup ((List.range n).map fun (k : Nat) => V.int (i + (k : Int) * c))) P13.sub2 P13.str hp
  refine q _ _ _ _ rfl (P13.trans hh.str P) (.tup (SqT.of upd_same) ?_)
  have e1 : ((List.range n).map fun (k : Nat) => V.int (i + (k : Int) * c)) = ((List.range n).map fun (k : Nat) => (i + (k : Int) * c)).map V.int := by rw [List.map_map]; rfl
  have e2 : ((List.range n).map fun (k : Nat) => D.int (i + (k : Int) * c)) = ((List.range n).map fun (k : Nat) => (i + (k : Int) * c)).map D.int := by rw [List.map_map]; rfl
  rw [e1, e2]
  exact .ints _
/-! is -/
theorem o_isBB {a b : Bool} : OpD K C rIsBN (.bl a) (.bl b) (fun d => d = .bl (decide (a = b))) := fun Z B H vx vy Q sm str r1 r2 q => by
  cases r1
  cases r2
  exact ⟨b, rfl, .inl ⟨a, rfl, q _ _ B H rfl ⟨.refl B, sm, .refl, .refl, str⟩ (.bl _)⟩⟩
theorem o_isNB {b : Bool} : OpD K C rIsBN .non (.bl b) (fun d => d = .bl false) := fun Z B H vx vy Q sm str r1 r2 q => by
  cases r1
  cases r2
  exact ⟨b, rfl, .inr ⟨rfl, q _ _ B H rfl ⟨.refl B, sm, .refl, .refl, str⟩ (.bl _)⟩⟩
theorem o_notBB {a b : Bool} : OpD K C rNotBN (.bl a) (.bl b) (fun d => d = .bl (!decide (a = b))) := fun Z B H vx vy Q sm str r1 r2 q => by
  cases r1
  cases r2
  exact ⟨b, rfl, .inl ⟨a, rfl, q _ _ B H rfl ⟨.refl B, sm, .refl, .refl, str⟩ (.bl _)⟩⟩
theorem o_notNB {b : Bool} : OpD K C rNotBN .non (.bl b) (fun d => d = .bl true) := fun Z B H vx vy Q sm str r1 r2 q => by
  cases r1
  cases r2
  exact ⟨b, rfl, .inr ⟨rfl, q _ _ B H rfl ⟨.refl B, sm, .refl, .refl, str⟩ (.bl _)⟩⟩
end
/-! ### deep == -/
mutual
def py : D → PyData
  | .non => .none
  | .bl b => .bool b
  | .int i => .int i
  | .str s => .str s
  | .tup xs => .tuple (pys xs)
  | .lst xs => .list (pys xs)
  | .dic _ => .none
  | .pos _ _ _ _ => .none
def pys : List D → List PyData
  | [] => []
  | d :: ds => py d :: pys ds
end
mutual
/-- ints, plain texts, tuples and lists of such, of the depth k at most -/
def isq : Nat → D → Bool
  | _, .int _ => true
  | _, .str s => PyData.strOk s
  | k + 1, .tup xs => isqs k xs
  | k + 1, .lst xs => isqs k xs
  | _, _ => false
def isqs : Nat → List D → Bool
  | _, [] => true
  | k, d :: ds => isq k d && isqs k ds
end
section
variable {K : PySem.W.Frag} {C : Addr} {B H : Hp}
mutual
theorem dp_of (sm : Same B H) : ∀ {k : Nat} {v : V} {d : D}, Rep K C B v d → isq k d = true → Dp K H v (py d)
  | _, _, _, .int i, _ => by simp only [py]; exact .int i
  | _, _, _, .str s, _ => by simp only [py]; exact .str s
  | 0, _, _, .tup h r, q => by simp [isq] at q
  | k + 1, _, _, .tup h r, q => by simp only [py]; exact .tup (sameT sm h) (dps_of sm r (by simpa [isq] using q))
  | 0, _, _, .lst h r, q => by simp [isq] at q
  | k + 1, _, _, .lst h r, q => by simp only [py]; exact .lst (SqL.of (sm _ _ h)) (dps_of sm r (by simpa [isq] using q))
  | 0, _, _, .non, q => by simp [isq] at q
  | k + 1, _, _, .non, q => by simp [isq] at q
  | 0, _, _, .bl _, q => by simp [isq] at q
  | k + 1, _, _, .bl _, q => by simp [isq] at q
  | 0, _, _, .dic _, q => by simp [isq] at q
  | k + 1, _, _, .dic _, q => by simp [isq] at q
  | 0, _, _, .pos _ _ _, q => by simp [isq] at q
  | k + 1, _, _, .pos _ _ _, q => by simp [isq] at q
theorem dps_of (sm : Same B H) : ∀ {k : Nat} {vs : List V} {ds : List D}, Reps K C B vs ds → isqs k ds = true → DpAll K H vs (pys ds)
  | _, _, _, .nil, _ => by simp only [pys]; exact .nil
  | k, _, _, .cons r t, q => by
    simp only [isqs, Bool.and_eq_true] at q
    simp only [pys]
    exact .cons (dp_of sm r q.1) (dps_of sm t q.2)
end
end
mutual
theorem py_lay : ∀ {k : Nat} {d : D}, isq k d = true → (py d).canLay0 = true ∧ (py d).depth ≤ k
  | k, .int i, _ => by simp [py, PyData.canLay0, PyData.depth]
  | k, .str s, q => by
    have q' : PyData.strOk s = true := by cases k <;> simpa [isq] using q
    simp [py, PyData.canLay0, PyData.depth, q']
  | k + 1, .tup xs, q => by
    obtain ⟨h1, h2⟩ := pys_lay (k := k) (ds := xs) (by simpa [isq] using q)
    simp only [py, PyData.canLay0, PyData.depth]
    exact ⟨h1, by omega⟩
  | k + 1, .lst xs, q => by
    obtain ⟨h1, h2⟩ := pys_lay (k := k) (ds := xs) (by simpa [isq] using q)
    simp only [py, PyData.canLay0, PyData.depth]
    exact ⟨h1, by omega⟩
  | 0, .tup xs, q => by simp [isq] at q
  | 0, .lst xs, q => by simp [isq] at q
  | 0, .non, q => by simp [isq] at q
  | k + 1, .non, q => by simp [isq] at q
  | 0, .bl _, q => by simp [isq] at q
  | k + 1, .bl _, q => by simp [isq] at q
  | 0, .dic _, q => by simp [isq] at q
  | k + 1, .dic _, q => by simp [isq] at q
  | 0, .pos _ _ _ _, q => by simp [isq] at q
  | k + 1, .pos _ _ _ _, q => by simp [isq] at q
theorem pys_lay : ∀ {k : Nat} {ds : List D}, isqs k ds = true → PyData.canLayAll0 (pys ds) = true ∧ PyData.depthAll (pys ds) ≤ k
  | k, [], _ => by simp [pys, PyData.canLayAll0, PyData.depthAll]
  | k, d :: ds, q => by
    simp only [isqs, Bool.and_eq_true] at q
    obtain ⟨h1, h2⟩ := py_lay q.1
    obtain ⟨h3, h4⟩ := pys_lay q.2
    simp only [pys, PyData.canLayAll0, PyData.depthAll, Bool.and_eq_true]
    exact ⟨⟨h1, h3⟩, by omega⟩
end
theorem py_shaped {k : Nat} {d : D} (h : isq k d = true) (hk : k ≤ 64) : PySem.SeqAt.shaped (py d) = true := by
  obtain ⟨h1, h2⟩ := py_lay h
  unfold PySem.SeqAt.shaped
  rw [h1, decide_eq_true (by omega)]
  rfl
mutual
theorem py_inj : ∀ {k l : Nat} {d e : D}, isq k d = true → isq l e = true → PyData.eqv (py d) (py e) = true → d = e
  | k, l, .int i, .int j, _, _, h => by simp only [py, PyData.eqv, beq_iff_eq] at h; rw [h]
  | k, l, .str s, .str t, _, _, h => by simp only [py, PyData.eqv, beq_iff_eq] at h; rw [h]
  | k + 1, l + 1, .tup xs, .tup ys, q1, q2, h => by
    simp only [py, PyData.eqv] at h
    rw [pys_inj (k := k) (l := l) (by simpa [isq] using q1) (by simpa [isq] using q2) h]
  | k + 1, l + 1, .lst xs, .lst ys, q1, q2, h => by
    simp only [py, PyData.eqv] at h
    rw [pys_inj (k := k) (l := l) (by simpa [isq] using q1) (by simpa [isq] using q2) h]
  | 0, _, .tup xs, _, q, _, _ => by simp [isq] at q
  | 0, _, .lst xs, _, q, _, _ => by simp [isq] at q
  | _, 0, _, .tup xs, _, q, _ => by simp [isq] at q
  | _, 0, _, .lst xs, _, q, _ => by simp [isq] at q
  | k, _, .non, _, q, _, _ => by cases k <;> simp [isq] at q
  | k, _, .bl _, _, q, _, _ => by cases k <;> simp [isq] at q
  | k, _, .dic _, _, q, _, _ => by cases k <;> simp [isq] at q
  | k, _, .pos _ _ _ _, _, q, _, _ => by cases k <;> simp [isq] at q
  | _, k, _, .non, _, q, _ => by cases k <;> simp [isq] at q
  | _, k, _, .bl _, _, q, _ => by cases k <;> simp [isq] at q
  | _, k, _, .dic _, _, q, _ => by cases k <;> simp [isq] at q
  | _, k, _, .pos _ _ _ _, _, q, _ => by cases k <;> simp [isq] at q
  | _, _, .int _, .str _, _, _, h => by simp [py, PyData.eqv] at h
  | _, _, .int _, .tup _, _, _, h => by simp [py, PyData.eqv] at h
  | _, _, .int _, .lst _, _, _, h => by simp [py, PyData.eqv] at h
  | _, _, .str _, .int _, _, _, h => by simp [py, PyData.eqv] at h
  | _, _, .str _, .tup _, _, _, h => by simp [py, PyData.eqv] at h
  | _, _, .str _, .lst _, _, _, h => by simp [py, PyData.eqv] at h
  | _, _, .tup _, .int _, _, _, h => by simp [py, PyData.eqv] at h
  | _, _, .tup _, .str _, _, _, h => by simp [py, PyData.eqv] at h
  | _, _, .tup _, .lst _, _, _, h => by simp [py, PyData.eqv] at h
  | _, _, .lst _, .int _, _, _, h => by simp [py, PyData.eqv] at h
  | _, _, .lst _, .str _, _, _, h => by simp [py, PyData.eqv] at h
  | _, _, .lst _, .tup _, _, _, h => by simp [py, PyData.eqv] at h
theorem pys_inj : ∀ {k l : Nat} {ds es : List D}, isqs k ds = true → isqs l es = true → PyData.eqvAll (pys ds) (pys es) = true → ds = es
  | _, _, [], [], _, _, _ => rfl
  | _, _, [], _ :: _, _, _, h => by simp [pys, PyData.eqvAll] at h
  | _, _, _ :: _, [], _, _, h => by simp [pys, PyData.eqvAll] at h
  | k, l, d :: ds, e :: es, q1, q2, h => by
    simp only [isqs, Bool.and_eq_true] at q1 q2
    simp only [pys, PyData.eqvAll, Bool.and_eq_true] at h
    rw [py_inj q1.1 q2.1 h.1, pys_inj q1.2 q2.2 h.2]
end
section
variable {K : PySem.W.Frag} {C : Addr}
theorem py_eqv {k l : Nat} {d e : D} (h1 : isq k d = true) (h2 : isq l e = true) {b : Bool} (hb : b = true ↔ d = e) : PyData.eqv (py d) (py e) = b := by
  cases b with
  | true =>
    have e1 := hb.mp rfl
    subst e1
    exact PySem.SeqAt.eqv_refl _ (py_lay h1).1
  | false =>
    cases q : PyData.eqv (py d) (py e) with
    | false => rfl
    | true => exact absurd (hb.mpr (py_inj h1 h2 q)) (by decide)
theorem o_eqD {k l : Nat} {d e : D} (h1 : isq k d = true) (h2 : isq l e = true) (hk : k ≤ 64) (hl : l ≤ 64) {b : Bool} (hb : b = true ↔ d = e) : OpD K C (rEqD K) d e (fun x => x = .bl b) := fun Z B H vx vy Q sm str r1 r2 q => by
  refine ⟨py d, py e, dp_of sm r1 h1, dp_of sm r2 h2, py_shaped h1 hk, py_shaped h2 hl, ?_⟩
  rw [py_eqv h1 h2 hb]
  exact q _ _ B H rfl ⟨.refl B, sm, .refl, .refl, str⟩ (.bl b)
theorem o_neD {k l : Nat} {d e : D} (h1 : isq k d = true) (h2 : isq l e = true) (hk : k ≤ 64) (hl : l ≤ 64) {b : Bool} (hb : b = true ↔ d = e) : OpD K C (rNeD K) d e (fun x => x = .bl (!b)) := fun Z B H vx vy Q sm str r1 r2 q => by
  refine ⟨py d, py e, dp_of sm r1 h1, dp_of sm r2 h2, py_shaped h1 hk, py_shaped h2 hl, ?_⟩
  rw [py_eqv h1 h2 hb]
  exact q _ _ B H rfl ⟨.refl B, sm, .refl, .refl, str⟩ (.bl _)
end
end Dl
end
section
set_option Elab.async false
set_option autoImplicit false
set_option linter.all false
set_option maxRecDepth 100000
set_option maxHeartbeats 4000000
/-! Texts joined, truth of a list as a value, a set that stays empty. -/
namespace Dl
open PySem L2
section
variable {K : PySem.W.Frag} {C : Addr} {S : List Sl} {N M Bk Ct : List Sl → Prop} {R : D → Prop} {t u : TS} {te : TE} {P : D → Prop} {i j k : Nat}
abbrev rAddT : R2 := fun x y H Q => ∃ i j, x = .str i ∧ y = .str j ∧ i.length + j.length ≤ sizeLine ∧ Q (.str (i ++ j)) H
theorem o_addT {a b : Str} (h : a.length + b.length ≤ 16777216) : OpD K C rAddT (.str a) (.str b) (fun d => d = .str (a ++ b)) := fun Z B H vx vy Q sm str r1 r2 q => by
  cases r1
  cases r2
  exact ⟨a, b, rfl, rfl, by rw [PySem.sizeLine_eq]; exact h, q _ _ B H rfl ⟨.refl B, sm, .refl, .refl, str⟩ (.str _)⟩
theorem v_notT {ds : List D} (h : VlD K C te S (.lst ds)) : VlD K C (tNotT K te) S (.bl ds.isEmpty) := fun Z B H σ Q hh q => by
  refine h Z B H σ _ hh fun v d B1 H1 p P1 r1 => ?_
  subst p
  cases r1 with
  | @lst a vs _ ha ra =>
    refine ⟨!vs.isEmpty, .inl ⟨vs, SqL.of (P1.sub2 _ _ ha), rfl⟩, ?_⟩
    have e : (!(!vs.isEmpty)) = ds.isEmpty := by cases ra <;> rfl
    rw [e]
    exact q _ _ B1 H1 rfl P1 (.bl _)
theorem Step.set_fz {Z : Zt} {B H : Hp} {σ : L2.St} (h : Holds K C Z B H σ S) {p : Addr} {o : HO} (hp : B p = some o) : Step K C Z B H σ S B H (σ.set i (some (.ref p))) (S.set i (.fz p o)) :=
  ⟨.refl B, fun a o e z n => ⟨e, fun q => n (ownAt_set_im rfl q)⟩, fun a o e => .inl e, h.set (s := .fz p o) ⟨rfl, hp⟩ fun o => by cases o⟩
theorem q_set0 {w : World} (k : ∀ p, CmD K C u (S.set i (.fz p (SetO w p (fun _ => false) 0))) N R Bk Ct) : CmD K C (tSeq (tAsg (tCB (rSet0 w) tNil) (gName i)) u) S N R Bk Ct :=
  c_seq (M := fun S' => ∃ p, S' = S.set i (.fz p (SetO w p (fun _ => false) 0))) (fun Z B H σ E hh nn r b c => by
    refine ⟨rfl, fun p hp => ?_⟩
    have P := Post.new (o := SetO w p (fun _ => false) 0) hh.sub hh.str hp
    exact nn _ _ _ _ ⟨p, rfl⟩ ((P.step hh).trans hh (Step.set_fz (hh.post P) upd_same))) fun S' ⟨p, e⟩ => by rw [e]; exact k p
theorem c_sorted0 {w : World} {p : Addr} (hi : S[i]? = some (.fz p (SetO w p (fun _ => false) 0))) (k : R (.lst [])) : CmD K C (tRet (tCB (rSortedSet w) (tCons (tVar i) tNil))) S N R Bk Ct := fun Z B H σ E hh nn r b c => by
  obtain ⟨e1, e2⟩ := hh.slot i _ hi
  refine ⟨.ref p, e1, p, _, 0, rfl, hh.sub _ _ e2, by decide, fun ns q h1 h2 h3 hq => ?_⟩
  have e : ns = [] := List.length_eq_zero_iff.mp h3
  subst e
  have P := Post.new (o := .lst []) hh.sub hh.str hq
  exact r _ _ _ _ k (P.fin hh) (.lst upd_same .nil)
end
end Dl
end
section
set_option Elab.async false
set_option autoImplicit false
set_option linter.all false
set_option maxRecDepth 100000
set_option maxHeartbeats 4000000
/-! Ranges that go down, comprehensions over what a map gives. -/
namespace Dl
open PySem L2
section
variable {K : PySem.W.Frag} {C : Addr} {S : List Sl} {N M Bk Ct : List Sl → Prop} {R : D → Prop} {t u : TS} {te : TE} {P : D → Prop} {i j k : Nat}
def dwnD (n : Nat) : List D := (List.range n).map fun (k : Nat) => .int ((n : Int) - 1 - (k : Int))
theorem dwnD_len {n : Nat} : (dwnD n).length = n := by unfold dwnD; rw [List.length_map, List.length_range]
theorem dwnD_get {n i : Nat} {d : D} (h : (dwnD n)[i]? = some d) : i < n ∧ d = .int ((n : Int) - 1 - (i : Int)) := by
  unfold dwnD at h
  rw [List.getElem?_map] at h
  by_cases hl : i < n
  · rw [List.getElem?_range hl] at h
    exact ⟨hl, (Option.some.inj h).symm⟩
  · rw [List.getElem?_eq_none (by rw [List.length_range]; omega)] at h; cases h
theorem itc_ok {Z : Zt} {B : Hp} {n : Nat} : ItOk K C Z (Itc ((n : Int) - 1) (-1) n) B (dwnD n) := fun i B1 H1 s1 s2 str => by
  refine ⟨fun e => by rw [dwnD_len] at e; show n ≤ i; omega, fun d e => ?_⟩
  obtain ⟨hl, ed⟩ := dwnD_get e
  refine ⟨hl, ?_⟩
  rintro x H' ⟨rfl, rfl⟩
  rw [ed, show (n : Int) - 1 - (i : Int) = (n : Int) - 1 + ((i : Nat) : Int) * (-1) by omega]
  exact ⟨B1, ⟨.refl B1, s2, .refl, .refl, str⟩, .int _⟩
/-- range(n - 1, -1, -1) -/
theorem it_down {ta tb tc : TE} {n : Nat} (h1 : VlD K C ta S (.int ((n : Int) - 1))) (h2 : VlD K C tb S (.int (-1))) (h3 : VlD K C tc S (.int (-1))) (hn : n ≤ 1000000) : ItD K C (iRng3 (tCons ta (tCons tb (tCons tc tNil)))) S (dwnD n) := fun Z B H σ R hh q => by
  refine h1 Z B H σ _ hh fun v x B1 H1 p P1 r1 => ?_
  subst p
  cases r1
  refine h2 Z B1 H1 σ _ (hh.post P1) fun v x B2 H2 p P2 r2 => ?_
  subst p
  cases r2
  have P12 := P1.trans hh.str P2
  refine h3 Z B2 H2 σ _ (hh.post P12) fun v x B3 H3 p P3 r3 => ?_
  subst p
  cases r3
  have e := RgC.neg (i := (n : Int) - 1) (j := -1) (by omega) (by omega) (by omega) (by omega)
  have e2 : ((n : Int) - 1 - (-1)).toNat = n := by omega
  rw [e2] at e
  exact ⟨(n : Int) - 1, -1, -1, n, rfl, e, q _ B3 H3 (P12.trans hh.str P3) itc_ok⟩
/-- [e for x in l], l by a map -/
theorem n_lcG {α : Type} {wi : TI} {as : List α} {g f : α → D} (hI : ItD K C wi S (as.map g)) (hj : S[j]? = some .un) (hs : ∀ a ∈ as, VlD K C te (S.set j (.im (g a))) (f a)) (hn : as.length ≤ 1000000) :
    EvN K C (tLc wi (gName j) tYes te [j]) S (fun acc => acc = as.map f) := by
  refine (n_lc1 hI hj (fun i acc => acc = (as.take i).map f) (by simp) (fun i d acc e ha => ⟨_, t_yes, fun _ => ?_, fun e => by cases e⟩) (by rw [List.length_map]; exact hn)).mono fun acc ⟨h, _⟩ => by rw [h, List.length_map, List.take_length]
  rw [List.getElem?_map] at e
  cases e1 : as[i]? with
  | none => rw [e1] at e; cases e
  | some a =>
    rw [e1] at e
    cases e
    refine (hs a (List.mem_of_getElem? e1)).mono fun z ez => ?_
    rw [ez, ha, List.take_add_one, e1, List.map_append]
    rfl
theorem v_lcG {α : Type} {wi : TI} {as : List α} {g f : α → D} (hI : ItD K C wi S (as.map g)) (hj : S[j]? = some .un) (hs : ∀ a ∈ as, VlD K C te (S.set j (.im (g a))) (f a)) (hn : as.length ≤ 1000000) :
    VlD K C (tLc wi (gName j) tYes te [j]) S (.lst (as.map f)) := (n_lcG hI hj hs hn).ev.mono fun d ⟨acc, e, h⟩ => by rw [e, h]
/-- [e for x, y in l], l by a map -/
theorem v_lcG2 {α : Type} {wi : TI} {as : List α} {g1 g2 f : α → D} (hI : ItD K C wi S (as.map fun a => .tup [g1 a, g2 a])) (hj : S[j]? = some .un) (hk : S[k]? = some .un) (hjk : j ≠ k)
    (hs : ∀ a ∈ as, VlD K C te ((S.set j (.im (g1 a))).set k (.im (g2 a))) (f a)) (hn : as.length ≤ 1000000) :
    VlD K C (tLc wi (gTup K 2 (gCons (gName j) (gCons (gName k) gNil))) tYes te [j, k]) S (.lst (as.map f)) := by
  refine (e_lc2 hI hj hk hjk (fun i acc => acc = (as.take i).map f) (by simp) (fun i d acc e ha => ?_) (by rw [List.length_map]; exact hn)).mono fun d ⟨acc, e, h, _⟩ => by rw [e, h, List.length_map, List.take_length]
  rw [List.getElem?_map] at e
  cases e1 : as[i]? with
  | none => rw [e1] at e; cases e
  | some a =>
    rw [e1] at e
    cases e
    refine ⟨_, _, rfl, _, t_yes, fun _ => ?_, fun e => by cases e⟩
    refine (hs a (List.mem_of_getElem? e1)).mono fun z ez => ?_
    rw [ez, ha, List.take_add_one, e1, List.map_append]
    rfl
end
end Dl
end
section
set_option Elab.async false
set_option autoImplicit false
set_option linter.all false
set_option maxRecDepth 100000
set_option maxHeartbeats 4000000
/-! Own things read, dicts, instances. -/
namespace Dl
open PySem L2
section
variable {K : PySem.W.Frag} {C : Addr} {S : List Sl} {N M Bk Ct : List Sl → Prop} {R : D → Prop} {t u : TS} {te : TE} {P : D → Prop} {i j k : Nat}
/-! ### an own thing is read -/
theorem Post.back {Z : Zt} {B H B1 B2 H2 : Hp} {σ : L2.St} (hh : Holds K C Z B H σ S) (P2 : Post K Z B1 H B2 H2) : Post K Z B H B H2 := by
  have nz : ∀ a o, B a = some o → ¬ Zat Z a := fun a o e ⟨l, ns, z⟩ => by
    obtain ⟨h1, _⟩ := hh.str.ok a l ns z
    rw [h1] at e; cases e
  refine ⟨.refl B, fun a o e => P2.kp a o (hh.sub a o e) (nz a o e), P2.kp, .refl, ⟨fun p l ns e => ?_⟩⟩
  obtain ⟨h1, h2, _⟩ := hh.str.ok p l ns e
  obtain ⟨_, _, h3⟩ := P2.str.ok p l ns e
  exact ⟨h1, h2, h3⟩
def ScD (K : PySem.W.Frag) (C : Addr) (d : D) : Prop := ∀ B v, Rep K C B v d → ∀ B', Rep K C B' v d
theorem scI {a : Int} : ScD K C (.int a) := fun B v r B' => by cases r; exact .int a
theorem scB {a : Bool} : ScD K C (.bl a) := fun B v r B' => by cases r; exact .bl a
theorem v_peek {ds : List D} {d : D} (hj : S[j]? = some (.ml ds)) (sc : ScD K C d) (h : VlD K C te (S.set j (.im (.lst ds))) d) : VlD K C te S d := fun Z B H σ Q hh q => by
  obtain ⟨p, vs, e, nb, nz, hp, rr⟩ := hh.slot j _ hj
  have sm : Same B (upd B p (.lst vs)) := fun x w q => by rw [upd_ne (ne_of_none q nb)]; exact q
  have st : Step K C Z B H σ S (upd B p (.lst vs)) H σ (S.set j (.im (.lst ds))) := Step.freeze hh hj rfl e hp (.lst upd_same (rr.mono sm))
  exact h Z _ H σ _ st.hold fun v d' B2 H2 e2 P2 r2 => q v d' B H2 e2 (Post.back hh P2) (by subst e2; exact sc _ _ r2 _)
theorem v_peekD {ns : List (Int × Int)} {d : D} (hj : S[j]? = some (.md ns)) (sc : ScD K C d) (h : VlD K C te (S.set j (.im (.dic ns))) d) : VlD K C te S d := fun Z B H σ Q hh q => by
  obtain ⟨p, e, nb, nz, hp⟩ := hh.slot j _ hj
  have st : Step K C Z B H σ S (upd B p (.dK (kvI ns))) H σ (S.set j (.im (.dic ns))) := Step.freeze hh hj rfl e hp (.dic upd_same)
  exact h Z _ H σ _ st.hold fun v d' B2 H2 e2 P2 r2 => q v d' B H2 e2 (Post.back hh P2) (by subst e2; exact sc _ _ r2 _)
theorem t_peek {ds : List D} {tt : TT} {Pb : Bool → Prop} (hj : S[j]? = some (.ml ds)) (h : TsD K C tt (S.set j (.im (.lst ds))) Pb) : TsD K C tt S Pb := fun Z B H σ Q hh q => by
  obtain ⟨p, vs, e, nb, nz, hp, rr⟩ := hh.slot j _ hj
  have sm : Same B (upd B p (.lst vs)) := fun x w q => by rw [upd_ne (ne_of_none q nb)]; exact q
  have st : Step K C Z B H σ S (upd B p (.lst vs)) H σ (S.set j (.im (.lst ds))) := Step.freeze hh hj rfl e hp (.lst upd_same (rr.mono sm))
  exact h Z _ H σ _ st.hold fun b B2 H2 e2 P2 => q b B H2 e2 (Post.back hh P2)
theorem t_peekD {ns : List (Int × Int)} {tt : TT} {Pb : Bool → Prop} (hj : S[j]? = some (.md ns)) (h : TsD K C tt (S.set j (.im (.dic ns))) Pb) : TsD K C tt S Pb := fun Z B H σ Q hh q => by
  obtain ⟨p, e, nb, nz, hp⟩ := hh.slot j _ hj
  have st : Step K C Z B H σ S (upd B p (.dK (kvI ns))) H σ (S.set j (.im (.dic ns))) := Step.freeze hh hj rfl e hp (.dic upd_same)
  exact h Z _ H σ _ st.hold fun b B2 H2 e2 P2 => q b B H2 e2 (Post.back hh P2)
/-! ### dicts of ints -/
def getI (ns : List (Int × Int)) (k : Int) : Option Int := (ns.find? fun p => decide (p.1 = k)).map (·.2)
def putI (ns : List (Int × Int)) (k v : Int) : List (Int × Int) :=
  if (ns.any fun p => decide (p.1 = k)) = true then ns.map (fun p => if p.1 = k then (p.1, v) else p) else ns ++ [(k, v)]
theorem inl_iff {a b : Int} : ((Sum.inl a : Key) = Sum.inl b) ↔ a = b := ⟨fun e => Sum.inl.inj e, fun e => by rw [e]⟩
theorem kvI_get (k : Int) : ∀ ns : List (Int × Int), valV (kvI ns) (Sum.inl k) = (getI ns k).map V.int
  | [] => rfl
  | p :: r => by
    have ih := kvI_get k r
    by_cases e : p.1 = k
    · rw [show kvI (p :: r) = (Sum.inl p.1, V.int p.2) :: kvI r from rfl, valV_pos (inl_iff.mpr e)]
      simp [getI, e]
    · rw [show kvI (p :: r) = (Sum.inl p.1, V.int p.2) :: kvI r from rfl, valV_neg (fun z => e (inl_iff.mp z)), ih]
      simp [getI, e]
theorem kvI_any (k : Int) (ns : List (Int × Int)) : ((kvI ns).any fun kv => decide (kv.1 = Sum.inl k)) = ns.any fun p => decide (p.1 = k) := by
  unfold kvI
  rw [List.any_map]
  congr 1
  funext p
  simp [inl_iff]
theorem kvI_put (ns : List (Int × Int)) (k v : Int) : kvI (putI ns k v) = putK (kvI ns) (Sum.inl k) (V.int v) := by
  unfold putI putK
  rw [kvI_any]
  by_cases h : (ns.any fun p => decide (p.1 = k)) = true
  · rw [if_pos h, if_pos h]
    unfold kvI
    rw [List.map_map, List.map_map]
    apply List.map_congr_left
    intro p _
    by_cases e : p.1 = k
    · simp [e]
    · simp [e]
  · rw [if_neg h, if_neg h]
    simp [kvI]
theorem map_int_inj {a b : Option Int} (h : a.map V.int = b.map V.int) : a = b := by
  cases a <;> cases b <;> simp at h ⊢
  exact h
theorem getI_put (ns : List (Int × Int)) (k j v : Int) : getI (putI ns k v) j = if j = k then some v else getI ns j := by
  apply map_int_inj
  rw [← kvI_get, kvI_put, valV_put, kvI_get]
  by_cases e : j = k
  · subst e; simp
  · rw [if_neg e, if_neg (fun z => e (inl_iff.mp z))]
theorem putI_len (ns : List (Int × Int)) (k v : Int) : (putI ns k v).length ≤ ns.length + 1 := by
  have := length_putK (kvI ns) (Sum.inl k) (V.int v)
  rw [← kvI_put] at this
  simpa [kvI] using this
theorem dget_of {H : Hp} {a : Addr} {ns : List (Int × Int)} (k : Int) (e : H a = some (.dK (kvI ns))) : DGet H a (.int k) ((getI ns k).map V.int) := by
  rw [← kvI_get]
  exact DGet.k (k := Sum.inl k) e
theorem v_dget {td ty : TE} {ns : List (Int × Int)} {k n : Int} (h1 : VlD K C td S (.dic ns)) (h2 : VlD K C ty S (.int k)) (hg : getI ns k = some n) : VlD K C (tDGet td ty) S (.int n) := fun Z B H σ Q hh q => by
  refine h1 Z B H σ _ hh fun v x B1 H1 p P1 r1 => ?_
  subst p
  refine h2 Z B1 H1 σ _ (hh.post P1) fun v x B2 H2 p P2 r2 => ?_
  subst p
  cases r2
  have P12 := P1.trans hh.str P2
  cases r1.mono P2.sub with
  | @dic a ns ha =>
    have := dget_of k (P12.sub2 _ _ ha)
    rw [hg] at this
    exact ⟨a, _, rfl, this, q _ _ B2 H2 rfl P12 (.int n)⟩
theorem v_dget2 {td ty tx : TE} {ns : List (Int × Int)} {k d : Int} (h1 : VlD K C td S (.dic ns)) (h2 : VlD K C ty S (.int k)) (h3 : VlD K C tx S (.int d)) : VlD K C (tDGet2 td ty tx) S (.int ((getI ns k).getD d)) := fun Z B H σ Q hh q => by
  refine h1 Z B H σ _ hh fun v x B1 H1 p P1 r1 => ?_
  subst p
  cases r1 with
  | @dic a ns ha =>
    refine ⟨a, rfl, .inl ⟨_, .inl (P1.sub2 _ _ ha)⟩, ?_⟩
    refine h2 Z B1 H1 σ _ (hh.post P1) fun v x B2 H2 p P2 r2 => ?_
    subst p
    cases r2
    have P12 := P1.trans hh.str P2
    refine h3 Z B2 H2 σ _ (hh.post P12) fun v x B3 H3 p P3 r3 => ?_
    subst p
    cases r3
    have P13 := P12.trans hh.str P3
    refine ⟨_, dget_of k (P13.sub2 _ _ (P3.sub _ _ (P2.sub _ _ ha))), ?_⟩
    have e : ((getI ns k).map V.int).getD (.int d) = .int ((getI ns k).getD d) := by cases getI ns k <;> rfl
    rw [e]
    exact q _ _ B3 H3 rfl P13 (.int _)
theorem v_din {td ty : TE} {ns : List (Int × Int)} {k : Int} (h2 : VlD K C ty S (.int k)) (h1 : VlD K C td S (.dic ns)) : VlD K C (tDIn ty td) S (.bl (getI ns k).isSome) := fun Z B H σ Q hh q => by
  refine h2 Z B H σ _ hh fun v x B1 H1 p P1 r1 => ?_
  subst p
  cases r1
  refine h1 Z B1 H1 σ _ (hh.post P1) fun v x B2 H2 p P2 r2 => ?_
  subst p
  have P12 := P1.trans hh.str P2
  cases r2 with
  | @dic a ns ha =>
    refine ⟨a, _, rfl, dget_of k (P12.sub2 _ _ ha), ?_⟩
    have e : ((getI ns k).map V.int).isSome = (getI ns k).isSome := by cases getI ns k <;> rfl
    rw [e]
    exact q _ _ B2 H2 rfl P12 (.bl _)
theorem v_dnotin {td ty : TE} {ns : List (Int × Int)} {k : Int} (h2 : VlD K C ty S (.int k)) (h1 : VlD K C td S (.dic ns)) : VlD K C (tDNotIn ty td) S (.bl (!(getI ns k).isSome)) := fun Z B H σ Q hh q => by
  refine h2 Z B H σ _ hh fun v x B1 H1 p P1 r1 => ?_
  subst p
  cases r1
  refine h1 Z B1 H1 σ _ (hh.post P1) fun v x B2 H2 p P2 r2 => ?_
  subst p
  have P12 := P1.trans hh.str P2
  cases r2 with
  | @dic a ns ha =>
    refine ⟨a, _, rfl, dget_of k (P12.sub2 _ _ ha), ?_⟩
    have e : (!((getI ns k).map V.int).isSome) = !(getI ns k).isSome := by cases getI ns k <;> rfl
    rw [e]
    exact q _ _ B2 H2 rfl P12 (.bl _)
/-- x = {} -/
theorem c_dnew (k : N (S.set i (.md []))) : CmD K C (tAsg tDNewK (gName i)) S N R Bk Ct := fun Z B H σ E hh nn r b c => by
  intro p hp
  exact nn _ _ B _ k (Step.set_new (s := .md []) hh hp fun _ nz nb => ⟨p, rfl, nb, nz, upd_same⟩)
theorem q_dnew (k : CmD K C u (S.set i (.md [])) N R Bk Ct) : CmD K C (tSeq (tAsg tDNewK (gName i)) u) S N R Bk Ct :=
  c_seq (M := fun S' => S' = S.set i (.md [])) (c_dnew rfl) fun S' e => by rw [e]; exact k
/-- x[k] = v -/
theorem c_dput {ty tv : TE} {ns : List (Int × Int)} {a v : Int} (hj : S[j]? = some (.md ns)) (h1 : VlD K C ty S (.int a)) (h2 : VlD K C tv S (.int v)) (hl : ns.length < 1000000) (kk : N (S.set j (.md (putI ns a v)))) :
    CmD K C (sDPut (tVar j) ty tv) S N R Bk Ct := fun Z B H σ E hh nn r b c => by
  refine h2 Z B H σ _ hh fun w x B1 H1 p P1 r1 => ?_
  subst p
  cases r1
  have hh1 := hh.post P1
  obtain ⟨p0, e0, _⟩ := hh1.slot j _ hj
  refine ⟨.ref p0, e0, ?_⟩
  refine h1 Z B1 H1 σ _ hh1 fun w x B2 H2 p P2 r2 => ?_
  subst p
  cases r2
  have P12 := P1.trans hh.str P2
  have hh2 := hh.post P12
  obtain ⟨p, e, nb, nz, hp⟩ := hh2.slot j _ hj
  have ep : p = p0 := by rw [e] at e0; cases e0; rfl
  subst ep
  refine ⟨p, _, rfl, DPut.k (k := Sum.inl a) hp (by rw [PySem.sizeLine_eq]; simp only [kvI, List.length_map]; omega), ?_⟩
  rw [← kvI_put]
  exact nn _ _ B2 _ kk ((P12.step hh).trans hh (Step.own hh2 hj rfl e rfl ⟨p, rfl, nb, nz, upd_same⟩))
theorem q_dput {ty tv : TE} {ns : List (Int × Int)} {a v : Int} (hj : S[j]? = some (.md ns)) (h1 : VlD K C ty S (.int a)) (h2 : VlD K C tv S (.int v)) (hl : ns.length < 1000000) (kk : CmD K C u (S.set j (.md (putI ns a v))) N R Bk Ct) :
    CmD K C (tSeq (sDPut (tVar j) ty tv) u) S N R Bk Ct :=
  c_seq (M := fun S' => S' = S.set j (.md (putI ns a v))) (c_dput hj h1 h2 hl rfl) fun S' e => by rw [e]; exact kk
/-! ### lists of ints, of data -/
theorem o_inI {ns : List Int} {a : Int} {b : Bool} (hb : b = decide (a ∈ ns)) : OpD K C (rIn K false) (.int a) (.lst (ns.map D.int)) (fun d => d = .bl b) := fun Z B H vx vy Q sm str r1 r2 q => by
  cases r1
  cases r2 with
  | @lst p vs _ ha ra =>
    have e := ra.ints_inv
    subst e
    refine ⟨p, ns.map V.int, rfl, .inl (SqL.of (sm _ _ ha)), rfl, ?_, ?_⟩
    · rw [List.all_eq_true]; intro x hx; obtain ⟨n, _, rfl⟩ := List.mem_map.mp hx; rfl
    · have e : inV (.int a) (ns.map V.int) = b := by
        rw [hb, Bool.eq_iff_iff]
        unfold inV
        simp only [List.any_map, List.any_eq_true, decide_eq_true_eq, Function.comp]
        constructor
        · rintro ⟨x, hx, e⟩
          have : x = a := by simpa [eqV] using e
          subst this; exact hx
        · intro h; exact ⟨a, h, by simp [eqV]⟩
      show Q (.bl (if false = true then !inV (.int a) (ns.map V.int) else inV (.int a) (ns.map V.int))) H
      rw [e]
      exact q _ _ B H rfl ⟨.refl B, sm, .refl, .refl, str⟩ (.bl b)
theorem o_notInD {ds : List D} {d : D} {k l : Nat} {b : Bool} (h1 : isq k d = true) (h2 : isq l (.lst ds) = true) (hk : k ≤ 64) (hl : l ≤ 64) (hb : b = true ↔ ∃ x ∈ ds, x = d) : OpD K C (rNotInD K) d (.lst ds) (fun x => x = .bl (!b)) := fun Z B H vx vy Q sm str r1 r2 q => by
  refine ⟨py d, pys ds, dp_of sm r1 h1, dp_of sm r2 h2, py_shaped h1 hk, py_shaped h2 hl, ?_⟩
  have e : ((pys ds).any fun z => PyData.eqv z (py d)) = b := by
    rw [Bool.eq_iff_iff, hb]
    cases l with
    | zero => simp [isq] at h2
    | succ l =>
    simp only [isq] at h2
    clear r2 hb
    induction ds with
    | nil => simp [pys]
    | cons x ds ih =>
      simp only [isqs, Bool.and_eq_true] at h2
      have e1 : PyData.eqv (py x) (py d) = true ↔ x = d := by
        by_cases e : x = d
        · rw [py_eqv h2.1 h1 (b := true) (by simp [e])]; simp [e]
        · rw [py_eqv h2.1 h1 (b := false) (by simp [e])]; simp [e]
      simp only [pys, List.any_cons, Bool.or_eq_true, ih h2.2, e1, List.mem_cons, exists_eq_or_imp]
  rw [e]
  exact q _ _ B H rfl ⟨.refl B, sm, .refl, .refl, str⟩ (.bl _)
/-- l.index(x) -/
theorem pys_get : ∀ {ds : List D} {i : Nat}, (pys ds)[i]? = (ds[i]?).map py
  | [], i => by simp [pys]
  | d :: ds, 0 => by simp [pys]
  | d :: ds, i + 1 => by simp [pys, pys_get (ds := ds) (i := i)]
theorem isqs_get {k : Nat} : ∀ {ds : List D} {i : Nat} {d : D}, isqs k ds = true → ds[i]? = some d → isq k d = true
  | [], i, d, _, h => by simp at h
  | x :: ds, 0, d, h, e => by
    simp only [isqs, Bool.and_eq_true] at h
    simp only [List.getElem?_cons_zero, Option.some.injEq] at e
    subst e; exact h.1
  | x :: ds, i + 1, d, h, e => by
    simp only [isqs, Bool.and_eq_true] at h
    simp only [List.getElem?_cons_succ] at e
    exact isqs_get h.2 e
theorem v_index {tl te : TE} {ds : List D} {d : D} {i k l : Nat} (h1 : VlD K C tl S (.lst ds)) (h2 : VlD K C te S d) (i1 : isq k d = true) (i2 : isqs l ds = true) (hk : k ≤ 64) (hl : l + 1 ≤ 64) (hi : ds[i]? = some d) (hno : ∀ m, m < i → ds[m]? ≠ some d) :
    VlD K C (tBM K "list" (rIndexD K) tl (tCons te tNil)) S (.int (i : Int)) := fun Z B H σ Q hh q => by
  refine h1 Z B H σ _ hh fun v x B1 H1 p P1 r1 => ?_
  subst p
  cases r1 with
  | @lst a vs _ ha ra =>
    refine ⟨.inl ⟨rfl, vs, SqL.of (P1.sub2 _ _ ha)⟩, ?_⟩
    refine h2 Z B1 H1 σ _ (hh.post P1) fun v y B2 H2 p P2 r2 => ?_
    subst p
    have P12 := P1.trans hh.str P2
    have iD : isq (l + 1) (.lst ds) = true := by simp only [isq]; exact i2
    refine ⟨a, v, py y, pys ds, i, py y, rfl, rfl, dp_of P12.sub2 (.lst (P2.sub _ _ ha) (ra.mono P2.sub)) iD, dp_of P12.sub2 r2 i1, py_shaped iD hl, py_shaped i1 hk, by rw [pys_get, hi]; rfl, py_eqv i1 i1 (by simp), fun m z' hm hz => ?_, q _ _ B2 H2 rfl P12 (.int _)⟩
    rw [pys_get] at hz
    cases e : ds[m]? with
    | none => rw [e] at hz; cases hz
    | some x =>
      rw [e] at hz
      cases hz
      refine py_eqv (isqs_get i2 e) i1 (b := false) ?_
      simp only [Bool.false_eq_true, false_iff]
      intro z
      subst z
      exact hno m hm e
end
end Dl
end
section
set_option Elab.async false
set_option autoImplicit false
set_option linter.all false
set_option maxRecDepth 100000
set_option maxHeartbeats 4000000
/-! Instances. -/
namespace Dl
open PySem L2
def putD (f : Str) (v : D) : List (Str × D) → List (Str × D)
  | [] => [(f, v)]
  | (g, x) :: r => if g = f then (g, v) :: r else (g, x) :: putD f v r
theorem putD_nil (f : Str) (v : D) : putD f v [] = [(f, v)] := rfl
theorem putD_no {f g : Str} {v x : D} {r : List (Str × D)} (h : g ≠ f) : putD f v ((g, x) :: r) = (g, x) :: putD f v r := by simp [putD, h]
theorem putD_yes {f : Str} {v x : D} {r : List (Str × D)} : putD f v ((f, x) :: r) = (f, v) :: r := by simp [putD]
theorem put_rel {K : PySem.W.Frag} {C : Addr} {B : Hp} {f : Str} {v : V} {d : D} (r : Rep K C B v d) : ∀ {ws : List (Str × V)} {fs : List (Str × D)}, ws.map (·.1) = fs.map (·.1) → Reps K C B (ws.map (·.2)) (fs.map (·.2)) →
    (putF f v ws).map (·.1) = (putD f d fs).map (·.1) ∧ Reps K C B ((putF f v ws).map (·.2)) ((putD f d fs).map (·.2)) ∧ (putF f v ws).length ≤ ws.length + 1
  | [], [], _, _ => ⟨rfl, .cons r .nil, Nat.le_refl _⟩
  | [], q :: fs, h, _ => by simp at h
  | p :: ws, [], h, _ => by simp at h
  | (g, x) :: ws, (g', y) :: fs, h, rr => by
    simp only [List.map_cons, List.cons.injEq] at h
    obtain ⟨h1, h2⟩ := h
    subst h1
    simp only [List.map_cons] at rr
    cases rr with
    | cons r1 rr =>
      obtain ⟨i1, i2, i3⟩ := put_rel r h2 rr
      by_cases e : g = f
      · simp only [putF, putD, if_pos e, List.map_cons]
        exact ⟨by rw [h2], .cons r rr, by simp⟩
      · simp only [putF, putD, if_neg e, List.map_cons, List.length_cons]
        exact ⟨by rw [i1], .cons r1 i2, by omega⟩
section
variable {K : PySem.W.Frag} {C : Addr} {S : List Sl} {N M Bk Ct : List Sl → Prop} {R : D → Prop} {t u : TS} {te : TE} {P : D → Prop} {i j k : Nat}
/-- the class of the text -/
structure Cf (K : PySem.W.Frag) (C : Addr) : Prop where
  cls : Cls K C
  ab : NoAttr K C "abstractions"
  fl : NoAttr K C "first_level"
  hs : NoAttr K C "heads"
  tn : NoAttr K C "turn"
theorem fld_step {Z : Zt} {B H : Hp} {σ : L2.St} {E : Ends} {tv : TE} {f : Str} {d : D} {fs : List (Str × D)} (c : Cls K C) (na : NoAttr K C f) (hh : Holds K C Z B H σ S) (hj : S[j]? = some (.po fs)) (hl : fs.length < 100) (h : VlD K C tv S d)
    (kk : ∀ B1 H1, Step K C Z B H σ S B1 H1 σ (S.set j (.po (putD f d fs))) → E.nx σ H1) : sFld K (tVar j) tv f E σ H := by
  refine h Z B H σ _ hh fun v x B1 H1 p P1 r1 => ?_
  subst p
  have hh1 := hh.post P1
  obtain ⟨p, dx, ws, e, nb, nz, hp, rn, rr⟩ := hh1.slot j _ hj
  obtain ⟨q1, q2, q3⟩ := put_rel (f := f) r1 rn rr
  have hlw : ws.length = fs.length := by simpa using congrArg List.length rn
  refine ⟨.ref p, e, p, C, dx, ws, rfl, hp, c, na, by omega, ?_⟩
  exact kk B1 _ ((P1.step hh).trans hh (Step.own hh1 hj rfl e rfl ⟨p, dx, _, rfl, nb, nz, upd_same, q1, q2⟩))
/-- x.f = e, x an own instance -/
theorem q_fld {tv : TE} {f : Str} {d : D} {fs : List (Str × D)} (c : Cls K C) (na : NoAttr K C f) (hj : S[j]? = some (.po fs)) (hl : fs.length < 100) (h : VlD K C tv S d) (kk : CmD K C u (S.set j (.po (putD f d fs))) N R Bk Ct) :
    CmD K C (tSeq (sFld K (tVar j) tv f) u) S N R Bk Ct :=
  c_seq (M := fun S' => S' = S.set j (.po (putD f d fs))) (fun Z B H σ E hh nn r b cc => fld_step c na hh hj hl h fun B1 H1 st => nn _ _ _ _ rfl st) fun S' e => by rw [e]; exact kk
abbrev fsP (ab fl : Int) (hs tn : D) : List (Str × D) := [("abstractions", .int ab), ("first_level", .int fl), ("heads", hs), ("turn", tn)]
theorem n1 : ("abstractions" : Str) ≠ "first_level" := by decide +kernel
theorem n2 : ("abstractions" : Str) ≠ "heads" := by decide +kernel
theorem n3 : ("abstractions" : Str) ≠ "turn" := by decide +kernel
theorem n4 : ("first_level" : Str) ≠ "heads" := by decide +kernel
theorem n5 : ("first_level" : Str) ≠ "turn" := by decide +kernel
theorem n6 : ("heads" : Str) ≠ "turn" := by decide +kernel
theorem m1 : ("levels" : Str) ≠ "abstractions" := by decide +kernel
theorem m2 : ("levels" : Str) ≠ "first_level" := by decide +kernel
theorem m3 : ("levels" : Str) ≠ "heads" := by decide +kernel
theorem m4 : ("levels" : Str) ≠ "turn" := by decide +kernel
theorem bf {a b : Str} (h : a ≠ b) : (a == b) = false := beq_eq_false_iff_ne.mpr h
theorem posAt_of {B : Hp} {p dx : Addr} {ws : List (Str × V)} {ab fl : Int} {hs tn : D} (e : B p = some (.ins C dx ws)) (rn : ws.map (·.1) = (fsP ab fl hs tn).map (·.1)) (rr : Reps K C B (ws.map (·.2)) ((fsP ab fl hs tn).map (·.2))) : Rep K C B (.ref p) (.pos ab fl hs tn) := by
  match ws, rn, rr, e with
  | [(a1, v1), (a2, v2), (a3, v3), (a4, v4)], rn, rr, e =>
    simp only [fsP, List.map_cons, List.map_nil, List.cons.injEq, and_true] at rn
    obtain ⟨rfl, rfl, rfl, rfl⟩ := rn
    simp only [fsP, List.map_cons, List.map_nil] at rr
    cases rr with
    | cons r1 rr =>
      cases rr with
      | cons r2 rr =>
        cases rr with
        | cons r3 rr =>
          cases rr with
          | cons r4 rr =>
            cases r1
            cases r2
            refine .pos ⟨dx, _, e, ?_, ?_, ?_, ?_, ?_⟩ r3 r4
            · simp [List.lookup]
            · simp [List.lookup, bf n1.symm]
            · simp [List.lookup, bf n2.symm, bf n4.symm]
            · simp [List.lookup, bf n3.symm, bf n5.symm, bf n6.symm]
            · simp [List.lookup, bf m1, bf m2, bf m3, bf m4]
  | [], rn, _, _ => simp at rn
  | [a], rn, _, _ => simp at rn
  | [a, b], rn, _, _ => simp at rn
  | [a, b, c], rn, _, _ => simp at rn
  | a :: b :: c :: d :: e :: r, rn, _, _ => simp at rn
theorem c_freezeP {ab fl : Int} {hs tn : D} (hj : S[j]? = some (.po (fsP ab fl hs tn))) (h : CmD K C t (S.set j (.im (.pos ab fl hs tn))) N R Bk Ct) : CmD K C t S N R Bk Ct := fun Z B H σ E hh nn r b c => by
  obtain ⟨p, dx, ws, e, nb, nz, hp, rn, rr⟩ := hh.slot j _ hj
  have sm : Same B (upd B p (.ins C dx ws)) := fun x w q => by rw [upd_ne (ne_of_none q nb)]; exact q
  have st : Step K C Z B H σ S (upd B p (.ins C dx ws)) H σ (S.set j (.im (.pos ab fl hs tn))) := Step.freeze hh hj rfl e hp (posAt_of upd_same rn (rr.mono sm))
  exact h Z _ H σ E st.hold (fun S' σ' B' H' p' st' => nn S' σ' B' H' p' (st.trans hh st')) (fun v d B' H' p' f q => r v d B' H' p' (st.fin hh f) q)
        (fun S' σ' B' H' p' st' => b S' σ' B' H' p' (st.trans hh st')) (fun S' σ' B' H' p' st' => c S' σ' B' H' p' (st.trans hh st'))
/-! fields of data -/
theorem v_ab {ab fl : Int} {hs tn : D} (cf : Cf K C) (h : VlD K C te S (.pos ab fl hs tn)) : VlD K C (tFld K te "abstractions") S (.int ab) := fun Z B H σ Q hh q => by
  refine h Z B H σ _ hh fun v d B1 H1 p P1 r1 => ?_
  subst p
  cases r1 with
  | @pos a _ _ _ _ v w hp r1 r2 =>
    obtain ⟨dx, fs, e, e1, e2, e3, e4, e5⟩ := hp.at_
    exact ⟨a, C, dx, fs, _, rfl, P1.sub2 _ _ e, cf.cls, cf.ab, e1, q _ _ B1 H1 rfl P1 (.int _)⟩
theorem v_fl {ab fl : Int} {hs tn : D} (cf : Cf K C) (h : VlD K C te S (.pos ab fl hs tn)) : VlD K C (tFld K te "first_level") S (.int fl) := fun Z B H σ Q hh q => by
  refine h Z B H σ _ hh fun v d B1 H1 p P1 r1 => ?_
  subst p
  cases r1 with
  | @pos a _ _ _ _ v w hp r1 r2 =>
    obtain ⟨dx, fs, e, e1, e2, e3, e4, e5⟩ := hp.at_
    exact ⟨a, C, dx, fs, _, rfl, P1.sub2 _ _ e, cf.cls, cf.fl, e2, q _ _ B1 H1 rfl P1 (.int _)⟩
theorem v_hs {ab fl : Int} {hs tn : D} (cf : Cf K C) (h : VlD K C te S (.pos ab fl hs tn)) : VlD K C (tFld K te "heads") S hs := fun Z B H σ Q hh q => by
  refine h Z B H σ _ hh fun v d B1 H1 p P1 r1 => ?_
  subst p
  cases r1 with
  | @pos a _ _ _ _ v w hp r1 r2 =>
    obtain ⟨dx, fs, e, e1, e2, e3, e4, e5⟩ := hp.at_
    exact ⟨a, C, dx, fs, _, rfl, P1.sub2 _ _ e, cf.cls, cf.hs, e3, q _ _ B1 H1 rfl P1 r1⟩
theorem v_tn {ab fl : Int} {hs tn : D} (cf : Cf K C) (h : VlD K C te S (.pos ab fl hs tn)) : VlD K C (tFld K te "turn") S tn := fun Z B H σ Q hh q => by
  refine h Z B H σ _ hh fun v d B1 H1 p P1 r1 => ?_
  subst p
  cases r1 with
  | @pos a _ _ _ _ v w hp r1 r2 =>
    obtain ⟨dx, fs, e, e1, e2, e3, e4, e5⟩ := hp.at_
    exact ⟨a, C, dx, fs, _, rfl, P1.sub2 _ _ e, cf.cls, cf.tn, e4, q _ _ B1 H1 rfl P1 r2⟩
/-- a method without arguments -/
theorem v_meth {ab fl : Int} {hs tn : D} {G : Type} {args : G → List Sl} {pre : G → Prop} {post : G → D → Prop} (g : G) (h : VlD K C te S (.pos ab fl hs tn)) (ea : args g = [.im (.pos ab fl hs tn)]) (hp : pre g) :
    EvD K C (tMeth C "levels" (spG K C 1 args pre post) [] E0 te tNil) S (post g) := fun Z B H σ Q hh q => by
  refine h Z B H σ _ hh fun v d B1 H1 p P1 r1 => ?_
  subst p
  have r0 := r1
  cases r1 with
  | @pos a _ _ _ _ v w hpp r1 r2 =>
    obtain ⟨dx, fs, e, e1, e2, e3, e4, e5⟩ := hpp.at_
    refine ⟨a, dx, fs, rfl, P1.sub2 _ _ e, e5, ?_⟩
    obtain ⟨no, hold⟩ := holds_args (hh.post P1) (vs := [.ref a]) (ss := [.im (.pos ab fl hs tn)]) (.cons r0 .nil)
    exact ⟨Z, B1, g, rfl, by rw [ea]; rfl, by rw [ea]; exact no, by rw [ea]; exact hold, hp, fun v d B2 H2 pd P2 r2 => q v d B2 H2 pd (P1.trans hh.str P2) r2⟩
/-! ### a new instance -/
/-- __init__'s promise: n arguments beside self -/
def spP (K : PySem.W.Frag) (C : Addr) {G : Type} (n : Nat) (args : G → List Sl) (pre : G → Prop) (fs : G → List (Str × D)) : Sp := fun vs H Q _ =>
  ∃ (Z : Zt) (B : Hp) (g : G) (x : Addr) (vt : List V), vs = .ref x :: vt ∧ vt.length = n ∧ (args g).length = n ∧ (∀ s ∈ args g, s.own = false) ∧ Holds K C Z B H (vs.map some) (.po [] :: args g) ∧ pre g ∧
    ∀ B' H' dx ws, Same B B' → Same B' H' → (∀ a o, H a = some o → ¬ Zat Z a → a ≠ x → H' a = some o) → (∀ a o, B' a = some o → B a = some o ∨ H a = none) → StrOk K Z B' H' → B' x = none → H' x = some (.ins C dx ws) →
      ws.map (·.1) = (fs g).map (·.1) → Reps K C B' (ws.map (·.2)) ((fs g).map (·.2)) → Q .non H'
theorem spP_len {G : Type} {n : Nat} {args : G → List Sl} {pre : G → Prop} {fs : G → List (Str × D)} (vs : List V) (H : Hp) (Q : VK) (E : XK) (h : spP K C n args pre fs vs H Q E) : vs.length = n + 1 := by
  obtain ⟨Z, B, g, x, vt, e, l, _⟩ := h
  rw [e, List.length_cons, l]
/-- the body of __init__ sets fields alone, and no slot -/
theorem run_init {G : Type} {n : Nat} {args : G → List Sl} {pre : G → Prop} {fs : G → List (Str × D)} {nm : List Str} {t : TS} (hn : nm.length = n + 1)
    (h : ∀ g, pre g → (args g).length = n → ∀ Z B H σ (E : Ends), Holds K C Z B H σ (.po [] :: args g) → (∀ B1 H1, Step K C Z B H σ (.po [] :: args g) B1 H1 σ (.po (fs g) :: args g) → E.nx σ H1) → t E σ H)
    {vs : List V} {H : Hp} {Q : VK} {E : XK} (hsp : spP K C n args pre fs vs H Q E) : t { nx := fun _ H' => Q .non H', rt := Q } (L2.start nm vs) H := by
  obtain ⟨Z, B, g, x, vt, rfl, hv, ha, hno, hold, hp, q⟩ := hsp
  have hst : L2.start nm (.ref x :: vt) = (V.ref x :: vt).map some := by
    unfold L2.start
    rw [hn, List.length_cons, hv, Nat.sub_self]
    simp
  rw [hst]
  refine h g hp ha Z B H _ _ hold fun B1 H1 st => ?_
  have s0 : (((V.ref x :: vt).map some : L2.St))[0]? = some (some (.ref x)) := rfl
  have own : OwnAt (.po [] :: args g) ((V.ref x :: vt).map some) x := ⟨0, _, rfl, rfl, s0⟩
  obtain ⟨p, dx, ws, e, nb, nz, hp1, rn, rr⟩ := st.hold.slot 0 _ rfl
  rw [s0] at e
  cases e
  have only : ∀ a, OwnAt (.po [] :: args g) ((V.ref x :: vt).map some) a → a = x := fun a ⟨i, s, e1, o1, es⟩ => by
    cases i with
    | zero => rw [s0] at es; cases es; rfl
    | succ i =>
      simp only [List.getElem?_cons_succ] at e1
      have := hno s (List.mem_of_getElem? e1)
      rw [o1] at this; cases this
  refine q B1 H1 dx ws st.sub st.hold.sub (fun a o ea z ne => (st.kp a o ea z fun w => ne (only a w)).1) (fun a o ea => ?_) st.hold.str nb hp1 rn rr
  rcases st.fre a o ea with w | w | w
  · exact .inl w
  · exact .inr w
  · rw [only a w, nb] at ea; cases ea
/-- a new instance that none else knows -/
def EvP (K : PySem.W.Frag) (C : Addr) (te : TE) (S : List Sl) (fs : List (Str × D)) : Prop :=
  ∀ Z B H σ (Q : VK), Holds K C Z B H σ S → (∀ p dx ws B' H', Post K Z B H B' H' → ¬ Zat Z p → B' p = none → H p = none → H' p = some (.ins C dx ws) → ws.map (·.1) = fs.map (·.1) → Reps K C B' (ws.map (·.2)) (fs.map (·.2)) → Q (.ref p) H') → te σ H Q
theorem e_make {G : Type} {n : Nat} {args : G → List Sl} {pre : G → Prop} {fs : G → List (Str × D)} {ta : TA} (g : G) (h : AgD K C ta S (fun ss => ss = args g)) (hp : pre g) (hn : (args g).length = n := by rfl) :
    EvP K C (tMake C (spP K C n args pre fs) [] E0 ta) S (fs g) := fun Z B H σ Q hh q => by
  refine h Z B H σ _ hh fun vs ss B1 H1 e P1 r1 => ?_
  subst e
  intro x dx hx hdx hne
  rw [List.append_nil]
  have hh1 := hh.post P1
  have s1 : Same H1 (upd H1 dx (.own x)) := fun a u e => by rw [upd_ne (ne_of_none e hdx)]; exact e
  have hx2 : (upd H1 dx (.own x)) x = none := by rw [upd_ne (Ne.symm hne)]; exact hx
  have s2 : Same (upd H1 dx (.own x)) (upd (upd H1 dx (.own x)) x (.ins C dx [])) := fun a u e => by rw [upd_ne (ne_of_none e hx2)]; exact e
  have P2 : Post K Z B1 H1 B1 (upd (upd H1 dx (.own x)) x (.ins C dx [])) := Post.heap hh1.sub hh1.str (s1.trans s2)
  have hh2 := hh1.post P2
  have nz : ¬ Zat Z x := fun z => by
    obtain ⟨u, e⟩ := hh1.str.some z
    rw [hx] at e; cases e
  have nB : B1 x = none := hh1.sub.free hx
  obtain ⟨no, hold⟩ := holds_args hh2 r1
  refine ⟨Z, B1, g, x, vs, rfl, by rw [r1.length]; exact hn, hn, no, ⟨by rw [List.length_map, List.length_cons, List.length_cons, r1.length], hh2.sub, hh2.str, fun i s e => ?_, fun i j s t hij e1 e2 o1 o2 => ?_⟩, hp, fun B' H' dx' ws a1 a2 a3 a4 a5 a6 a7 a8 a9 => ⟨rfl, ?_⟩⟩
  · cases i with
    | zero =>
      simp only [List.getElem?_cons_zero, Option.some.injEq] at e
      subst e
      exact ⟨x, dx, [], rfl, nB, nz, upd_same, rfl, .nil⟩
    | succ i =>
      simp only [List.getElem?_cons_succ] at e
      exact hold.slot i s e
  · have key : ∀ (i : Nat) (s : Sl), (Sl.po [] :: args g)[i]? = some s → s.own = true → i = 0 := fun i s e o => by
      cases i with
      | zero => rfl
      | succ i =>
        simp only [List.getElem?_cons_succ] at e
        have := no s (List.mem_of_getElem? e)
        rw [o] at this; cases this
    exact absurd ((key i s e1 o1).trans (key j t e2 o2).symm) hij
  · have hx0 : H x = none := by
      cases z : H x with
      | none => rfl
      | some u => rw [P1.kp x u z nz] at hx; cases hx
    have sm := s1.trans s2
    refine q x dx' ws B' H' (P1.trans hh.str ⟨a1, a2, fun a o e z => a3 a o (sm a o e) z (ne_of_none e hx), fun a o e => (a4 a o e).imp id fun w => sm.free w, a5⟩) nz a6 hx0 a7 a8 a9
theorem Step.set_ownP {Z : Zt} {B H B1 H1 : Hp} {σ : L2.St} (h : Holds K C Z B H σ S) {p dx : Addr} {fs : List (Str × D)} {ws : List (Str × V)} (P : Post K Z B H B1 H1) (nz : ¬ Zat Z p) (nB : B1 p = none) (nH : H p = none) (e : H1 p = some (.ins C dx ws))
    (rn : ws.map (·.1) = fs.map (·.1)) (r : Reps K C B1 (ws.map (·.2)) (fs.map (·.2))) : Step K C Z B H σ S B1 H1 (σ.set i (some (.ref p))) (S.set i (.po fs)) := by
  have ne : ∀ (j : Nat) (t : Sl), S[j]? = some t → t.own = true → σ[j]? ≠ some (some (.ref p)) := fun j t e o z => by
    obtain ⟨_, _, u, q⟩ := h.ownz ⟨j, t, e, o, z⟩
    rw [nH] at q; cases q
  refine ⟨P.sub, fun a u e1 z n => ⟨P.kp a u e1 z, fun q => ?_⟩, fun a u e1 => (P.fre a u e1).elim .inl fun q => .inr (.inl q), (h.post P).set (s := .po fs) ⟨p, dx, ws, rfl, nB, nz, e, rn, r⟩ fun _ a ea j t hj e1 o => by cases ea; exact ne j t e1 o⟩
  obtain ⟨j, t, e2, o2, es⟩ := q
  by_cases hj : j = i
  · subst hj
    by_cases hl : j < σ.length
    · rw [List.getElem?_set_self hl] at es
      cases es
      rw [nH] at e1; cases e1
    · rw [List.getElem?_eq_none (by rw [List.length_set]; omega)] at es; cases es
  · rw [List.getElem?_set_ne (Ne.symm hj)] at e2 es
    exact n ⟨j, t, e2, o2, es⟩
/-- x = C(..) -/
theorem q_make {fs : List (Str × D)} (h : EvP K C te S fs) (k : CmD K C u (S.set i (.po fs)) N R Bk Ct) : CmD K C (tSeq (tAsg te (gName i)) u) S N R Bk Ct :=
  c_seq (M := fun S' => S' = S.set i (.po fs)) (fun Z B H σ E hh nn r b c => h Z B H σ _ hh fun p dx ws B1 H1 P1 nz nB nH e rn rr => nn _ _ B1 H1 rfl (Step.set_ownP hh P1 nz nB nH e rn rr)) fun S' e => by rw [e]; exact k
/-- C(..) as data -/
theorem e_makeD {ab fl : Int} {hs tn : D} (h : EvP K C te S (fsP ab fl hs tn)) : VlD K C te S (.pos ab fl hs tn) := fun Z B H σ Q hh q => by
  refine h Z B H σ Q hh fun p dx ws B1 H1 P1 nz nD hD eD rn rr => ?_
  have smB : Same B1 (upd B1 p (.ins C dx ws)) := fun x u e => by rw [upd_ne (ne_of_none e nD)]; exact e
  refine q (.ref p) _ (upd B1 p (.ins C dx ws)) H1 rfl ?_ (posAt_of upd_same rn (rr.mono smB))
  refine ⟨P1.sub.trans smB, fun a u ea => ?_, P1.kp, fun a u ea => ?_, ⟨fun x l ns ez => ?_⟩⟩
  · by_cases z : a = p
    · subst z; rw [upd_same] at ea; cases ea; exact eD
    · rw [upd_ne z] at ea; exact P1.sub2 a u ea
  · by_cases z : a = p
    · subst z; exact .inr hD
    · rw [upd_ne z] at ea; exact P1.fre a u ea
  · obtain ⟨c1, c2, a', b', c', c3⟩ := P1.str.ok x l ns ez
    have ne : x ≠ p := fun z => nz ⟨l, ns, by rw [ez, z]⟩
    exact ⟨by rw [upd_ne ne]; exact c1, Same.seq smB c2, a', b', c', c3⟩
end
end Dl
end
section
set_option Elab.async false
set_option autoImplicit false
set_option linter.all false
set_option maxRecDepth 100000
set_option maxHeartbeats 4000000
/-! Methods of the text. -/
namespace Dl
open PySem L2
structure Dm (P : Program) (w : World) (K : PySem.W.Frag) (mg : Str → Option Value) (base : Heap) (k : Nat) (C : Addr) (m : Str) (ps : List Str) (sp : Sp) : Prop where
  ex : ∃ f fd, Meth K C m f ∧ Binds K fd ps [] ∧ FnOk P w K mg base CX0 k f fd ps sp
structure Dk (P : Program) (w : World) (K : PySem.W.Frag) (mg : Str → Option Value) (base : Heap) (k : Nat) (C : Addr) (ps : List Str) (sp : Sp) : Prop where
  ex : ∃ f fd, Mk K C f ∧ Binds K fd ps [] ∧ FnOk P w K mg base CX0 k f fd ps sp
theorem dm_mk {P : Program} {w : World} {K : PySem.W.Frag} {mg : Str → Option Value} {base : Heap} {k : Nat} {C : Addr} {m : Str} {ps : List Str} {sp : Sp} {f : Addr} {fd : FuncData} (hm : Meth K C m f) (kp : PySem.W.keepIn K (.ref f) = true) (b : Binds K fd ps []) (F : FnOk P w K mg base CX0 k f fd ps sp) :
    Dm P w K mg base k C m ps sp := ⟨f, fd, hm, b, F⟩
theorem dk_mk {P : Program} {w : World} {K : PySem.W.Frag} {mg : Str → Option Value} {base : Heap} {k : Nat} {C : Addr} {ps : List Str} {sp : Sp} {f : Addr} {fd : FuncData} (hm : Mk K C f) (kp : PySem.W.keepIn K (.ref f) = true) (b : Binds K fd ps []) (F : FnOk P w K mg base CX0 k f fd ps sp) :
    Dk P w K mg base k C ps sp := ⟨f, fd, hm, b, F⟩
section
variable {X : Cx}
theorem pe_lev {k : Nat} {C : Addr} {m : Str} {ps : List Str} {sp : Sp} {o : Expr} {ta : TE} {pos apos : Pos} {pl : Sem Bool} (cf : Cf X.K C) (D : Dm X.prog X.w X.K X.mg X.base k C m ps sp) (hr : Room k X.A) (he : PE X o ta)
    (ht : eval (.Call (.Attribute o m apos) [] [] pos) X.env = (do
      let ov ← eval o X.env
      standAt apos.atName
      let (f, first) ← holding [ov] (getMethod ov m pl)
      callWith pos f first (backTo pos (starEach [] X.env)) (backToKw pos (keywordEach [] X.env))) := by rfl) :
    PE X (.Call (.Attribute o m apos) [] [] pos) (tMeth C m sp [] E0 ta tNil) := by
  obtain ⟨f, fd, hm, b, F⟩ := D.ex
  exact pe_meth0 he cf.cls hm F hr b .nil pass0 ht
theorem pe_mk {k : Nat} {C : Addr} {ps : List Str} {sp : Sp} {x : Str} {e : Expr} {es : List Expr} {t : TA} {p pos : Pos} (D : Dk X.prog X.w X.K X.mg X.base k C ps sp) (hr : Room (k + 1) X.A) (hg : Gl X x) (hP : X.mg x = some (.ref C)) (ha : PA X (e :: es) t)
    (hdb : (x == ("__debug__" : Str)) = false := by decide) (he : starEach (e :: es) X.env = (false, eval e X.env) :: starEach es X.env := by rfl) (hpl : (backTo pos (starEach es X.env)).any (·.1) = false := by rfl) :
    PE X (.Call (.Name x p) (e :: es) [] pos) (tMake C sp [] E0 t) := by
  obtain ⟨f, fd, hm, b, F⟩ := D.ex
  exact pe_make hm F hr hg hP b .nil pass0 ha hdb he hpl
end
end Dl
end
section
set_option Elab.async false
set_option autoImplicit false
set_option linter.all false
set_option maxRecDepth 100000
set_option maxHeartbeats 4000000
/-! A dict display of two dicts that are spread out. -/
namespace Dx
open PySem L2
section
variable {prog : Program} {w : World} {K : Type} [DecidableEq K] {knd : KeyKind prog w K} {A : Around} {E : Value → Shared → Prop} {s : Shared}
theorem put_dict {d : Addr} {kvs : List (K × Value)} {k : K} {key v : Value} {Q : Unit → Shared → Prop} (his : knd.is k key = true) (old : s.heap.DictOf knd d kvs) (hz : kvs.length ≤ sizeLine)
    (q : ∀ h', h'.DictOf knd d (stored kvs k v) → Heap.SameBut d s.heap h' → Q () { s with heap := h' }) : wpAny (model prog w) A (dictPut d (knd.hash k) key v) Q E s := by
  obtain ⟨ob, en, n, g1, g2, g3, g4, g5, g6⟩ := old
  have small : en.size ≤ sizeLine := by
    have := g5.length
    rw [Array.length_toList] at this
    omega
  have ixl : ∀ f : DictEntry → Bool, en.toList.findIdx? f = en.findIdx? f := fun f => by
    obtain ⟨l⟩ := en
    simp
  have ix := g5.findIdx k
  rw [ixl] at ix
  unfold dictPut
  refine wpAny_bind (wpAny_dictFind_of his g1 g3 g4 ?_)
  cases c : en.findIdx? (fun e => knd.is k e.key) with
  | none =>
    have out : k ∉ kvs.map (·.1) := not_mem_of_findIdx_none (ix ▸ c)
    have off : ¬ (kvs.any fun kv => decide (kv.1 = k)) = true := fun z => by
      obtain ⟨x, x1, x2⟩ := List.any_eq_true.mp z
      exact out (List.mem_map.mpr ⟨x, x1, of_decide_eq_true x2⟩)
    have es : stored kvs k v = kvs ++ [(k, v)] := if_neg off
    refine wpAny_updateDictKeys g1 g3 (q _ ⟨_, _, n + 1, Heap.get?_update_self _ g1 (Obj.isFreed_of_dict (Obj.data_mapDictKeys g3 _)), g2.mapDictKeys _, Obj.data_mapDictKeys g3 _, g4.push his _, ?_, ?_⟩ (Heap.SameBut.update ..)) small
    · have := g5.append his (knd.hash k) v
      rw [es, Array.toList_push]
      exact this
    · rw [es, List.map_append, List.nodup_append]
      refine ⟨g6, by simp, fun a ha b hb e => ?_⟩
      have hb' : b = k := by simpa using hb
      exact out (hb' ▸ e ▸ ha)
  | some i =>
    have es : stored kvs k v = kvs.map (fun kv => if kv.1 = k then (kv.1, v) else kv) := if_pos (any_of_findIdx_some (ix ▸ c))
    refine wpAny_updateDict g1 g3 (q _ ⟨_, _, n, Heap.get?_update_self _ g1 (Obj.isFreed_of_dict (Obj.data_mapDict g3 _)), g2.mapDict _, Obj.data_mapDict g3 _, g4.modify _ _, ?_, ?_⟩ (Heap.SameBut.update ..))
    · have c' : en.toList.findIdx? (fun e => knd.is k e.key) = some i := by rw [ixl]; exact c
      have := g5.modify g6 c' v
      rw [es, Array.toList_modify]
      exact this
    · rw [es, keys_map_store]
      exact g6
theorem merge_dict {d a : Addr} {kvs more : List (K × Value)} {Q : Unit → Shared → Prop} (hda : d ≠ a) (hsys : (a == sysModules) = false) (noref : ∀ k v, knd.is k v = true → ∀ x, v ≠ .ref x) (old : s.heap.DictOf knd d kvs) (src : s.heap.DictOf knd a more) (hz : kvs.length + more.length ≤ sizeLine)
    (q : ∀ h', h'.DictOf knd d (merged kvs more) → h'.DictOf knd a more → Heap.SameBut d s.heap h' → Q () { s with heap := h' }) : wpAny (model prog w) A (mergeMapping d (.ref a) false) Q E s := by
  obtain ⟨ob, en, n, g1, g2, g3, g4, g5, g6⟩ := id old
  obtain ⟨oa, ea, na, f1, f2, f3, f4, f5, f6⟩ := id src
  unfold mergeMapping
  refine wpAny_bind (wpAny_isInstance src.typeIs isSubtype_dict_dict ?_)
  rw [if_pos rfl]
  refine wpAny_bind (wpAny_specialOf src.typeIs F.slot_dict_iter.lookup ?_)
  refine wpAny_bind (wpAny_pure ?_)
  simp only [beq_self_eq_true, hsys, Bool.false_eq_true, if_false]
  have hlen : more.length = ea.size := by
    have := f5.length
    rw [Array.length_toList] at this
    omega
  have turns : wpAny (model prog w) A (do
      let l ← dictEntries a
      let ep ← dictEpoch a
      forIn (List.range l.size) PUnit.unit fun i (_ : PUnit) => (do
        let l2 ← dictEntries a
        match l2[i]? with
          | some e => do
            holding [e.key, e.val] (dictPut d e.hash e.key e.val)
            let ep2 ← dictEpoch a
            if (ep2 != ep) = true then do
                unsupported "dict.changed-during-merge"
                pure (ForInStep.yield PUnit.unit)
              else pure (ForInStep.yield PUnit.unit)
          | _ => do
            unsupported "dict.changed-during-merge"
            pure (ForInStep.yield PUnit.unit) : Sem (ForInStep PUnit))
      pure ()) Q E s := by
    refine wpAny_bind (wpAny_dictEntries f1 f3 (wpAny_bind (wpAny_dictEpoch f1 f3 (wpAny_bind ?_))))
    refine wpAny_forIn_list _ (fun rest _ s' => ∃ h' i, s' = { s with heap := h' } ∧ rest = (List.range ea.size).drop i ∧ i ≤ ea.size ∧ h'.DictOf knd d (merged kvs (more.take i)) ∧ h'.get? a = some oa ∧ Heap.SameBut d s.heap h') _ ?_ ?_ _ _
      ⟨s.heap, 0, rfl, by simp, Nat.zero_le _, by simpa [merged] using old, f1, .refl _ _⟩
    · rintro x rest b s' ⟨h', i, rfl, hr, hi, k1, k2, k3⟩
      have hlt : i < ea.size := by
        rcases Nat.lt_or_ge i ea.size with z | z
        · exact z
        · rw [List.drop_eq_nil_of_le (by rw [List.length_range]; exact z)] at hr; cases hr
      have hl2 : i < (List.range ea.size).length := by rw [List.length_range]; exact hlt
      rw [List.drop_eq_getElem_cons hl2, List.getElem_range] at hr
      obtain ⟨rfl, rfl⟩ := List.cons.inj hr
      have hm : x < more.length := by omega
      have at_ := List.getElem?_eq_getElem hm
      obtain ⟨i1, i2⟩ := f5.get? (i := x) (e := ea[x]) (k := (more[x]).1) (v := (more[x]).2) (by simp [hlt]) at_
      obtain ⟨k', i3, i4⟩ := f4 ea[x] (Array.getElem_mem hlt)
      have ek : k' = (more[x]).1 := knd.inj _ _ _ i3 i1
      subst ek
      refine wpAny_bind (wpAny_dictEntries k2 f3 ?_)
      rw [Array.getElem?_eq_getElem hlt]
      have short : (merged kvs (more.take x)).length ≤ sizeLine := by
        have e1 := merged_length_le kvs (more.take x)
        rw [List.length_take] at e1
        omega
      refine wpAny_bind (wpAny_holding ?_)
      rw [i4, i2]
      refine put_dict i1 k1 short fun h'' j1 j2 => ?_
      have k2' : h''.get? a = some oa := (j2.2 a (Ne.symm hda)).trans k2
      refine wpAny_bind (wpAny_dictEpoch k2' f3 ?_)
      rw [if_neg (by simp)]
      exact wpAny_pure ⟨h'', x + 1, rfl, rfl, hlt, by rw [merged_take_succ kvs more x _ at_]; exact j1, k2', k3.trans j2⟩
    · rintro b s' ⟨h', i, rfl, hr, hi, k1, k2, k3⟩
      have e : i = ea.size := by
        rcases Nat.lt_or_ge i ea.size with z | z
        · have := congrArg List.length hr
          rw [List.length_drop, List.length_range, List.length_nil] at this
          omega
        · omega
      rw [e, ← hlen, List.take_length] at k1
      exact wpAny_pure (q h' k1 ⟨oa, ea, na, k2, f2, f3, f4, f5, f6⟩ k3)
  refine wpAny_bind (wpAny_dictEntries g1 g3 ?_)
  split
  · refine wpAny_bind (wpAny_dictEntries f1 f3 (wpAny_bind ?_))
    rw [← Array.forIn_toList]
    refine wpAny_forIn_list _ (fun rest _ s' => s' = s ∧ ∀ e ∈ rest, e ∈ ea) _ ?_ ?_ _ _ ⟨rfl, fun e he => Array.mem_toList_iff.mp he⟩
    · rintro e rest b s' ⟨rfl, he⟩
      obtain ⟨k, i3, _⟩ := f4 e (he e List.mem_cons_self)
      have nr := noref k _ i3
      split
      · rename_i x hx
        exact absurd hx (nr x)
      · exact wpAny_pure ⟨rfl, fun y hy => he y (List.mem_cons_of_mem _ hy)⟩
    · rintro b s' ⟨rfl, _⟩
      exact turns
  · exact turns
end
/-! ### {**a, **b} -/
theorem display_two (v1 v2 : Sem Value) : dictDisplay [(none, v1), (none, v2)] = (do
    let d ← alloc { cls := .type "dict", data := .dict #[] }
    let m ← holding [.ref d] v1
    (((holding [.ref d, m] (mergeMapping d m false)).onRaise fun x => do let _ ← holding [.ref d, m, x] (runValue (.builtin "proto.let_go" {}))).tryCatch fun e => do
        if ← isInstance e (.type "AttributeError") then
          rule "dict.display.not-a-mapping"; raiseError "TypeError" s!"'{← typeNameOf m}' object is not a mapping"
        throw e).onRaise fun x => do let _ ← holding [.ref d, x] (runValue (.builtin "proto.let_go" {}))
    let m ← holding [.ref d] v2
    (((holding [.ref d, m] (mergeMapping d m false)).onRaise fun x => do let _ ← holding [.ref d, m, x] (runValue (.builtin "proto.let_go" {}))).tryCatch fun e => do
        if ← isInstance e (.type "AttributeError") then
          rule "dict.display.not-a-mapping"; raiseError "TypeError" s!"'{← typeNameOf m}' object is not a mapping"
        throw e).onRaise fun x => do let _ ← holding [.ref d, x] (runValue (.builtin "proto.let_go" {}))
    pure (.ref d)) := by
  unfold dictDisplay
  simp only [List.forIn_cons, List.forIn_nil, List.isEmpty_nil, if_true, pure_bind, bind_assoc]
section
variable {X : Cx}
def tMerge (ta tb : TE) : TE := fun σ H Q => ∀ p, H p = none → ta σ (upd H p (.dK [])) fun x H1 => ∃ (a : Addr) (kvs : List (Key × V)), x = .ref a ∧ a ≠ p ∧ H1 p = some (.dK []) ∧ H1 a = some (.dK kvs) ∧ kvs.length ≤ 1000 ∧
  tb σ (upd H1 p (.dK (mergeK [] kvs))) fun y H2 => ∃ (b : Addr) (ms : List (Key × V)), y = .ref b ∧ b ≠ p ∧ H2 p = some (.dK (mergeK [] kvs)) ∧ H2 b = some (.dK ms) ∧ ms.length ≤ 1000 ∧ Q (.ref p) (upd H2 p (.dK (mergeK (mergeK [] kvs) ms)))
theorem noref_mix {P : Program} {w : World} (k : Key) (v : Value) (h : (mixKind P w).is k v = true) (x : Addr) : v ≠ .ref x := by
  rintro rfl
  cases k <;> cases h
theorem pe_merge {a b : Expr} {pos : Pos} {ta tb : TE} (ha : PE X a ta) (hb : PE X b tb) : PE X (.Dict [none, none] [a, b] pos) (tMerge ta tb) := by
  refine ⟨fun pins s σ H Q I q => ?_⟩
  have e0 : eval (.Dict [none, none] [a, b] pos) X.env = (do
      standAt pos
      dictDisplay [(none, do let x ← eval a X.env; standAt pos; pure x), (none, do let x ← eval b X.env; standAt pos; pure x)]) := by
    rw [arm_eval_Dict]; rfl
  rw [e0, display_two]
  refine wpAny_bind (wpAny_standAt (wpAny_bind (wpAny_alloc ?_)))
  have hn := I.hok.fresh (Nat.le_refl s.heap.objs.size)
  have I1 := I.laid (a := s.heap.objs.size) (o := .dK []) (h' := s.heap.push { cls := .type "dict", data := .dict #[] }) (t' := s.toks) (fun _ _ q => Heap.get?_push_of_some _ q) (Nat.le_refl _) (dk_empty s.heap I.big)
  refine wpAny_bind (wpAny_holding (wpAny_bind (thn (ha.run pins _ σ _ _ I1 (q _ hn)) fun v1 s1 ⟨x, H1, I2, r1, c, kvs, ex, ne, e1, e2, l1, q1⟩ => ?_)))
  refine wpAny_bind (wpAny_standAt (wpAny_pure ?_))
  subst ex
  cases r1
  obtain ⟨z1, d1, vs1, rel1, dd1⟩ := dk_of I2.hok e1
  obtain ⟨z2, d2, vs2, rel2, dd2⟩ := dk_of I2.hok e2
  cases rel1
  have l1' : vs2.length ≤ 1000 := by rw [← rel2.length]; exact l1
  refine wpAny_bind (wpAny_onRaise (wpAny_tryCatch (wpAny_onRaise (wpAny_holding (merge_dict (knd := mixKind X.prog X.w) (Ne.symm ne) d2 noref_mix dd1 dd2 (by rw [sizeLine_eq, List.length_nil]; omega) fun h' dd1' dd2' hs => ?_)))))
  have hz1 : (mergeK [] kvs).length ≤ sizeLine := by
    have h1 := length_mergeK kvs []
    rw [List.length_nil] at h1
    rw [sizeLine_eq]; omega
  have he1 : ∃ q, h'.get? s.heap.objs.size = some q := let ⟨q, _, _, hq, _⟩ := dd1'; ⟨q, hq⟩
  have I3 := d_write I2 (by rw [e1]; exact True.intro) hs he1 (dk_new hz1 d1 (KV.merge rel2 .nil) dd1') (t' := s1.toks)
  refine wpAny_bind (wpAny_holding (wpAny_bind (thn (hb.run pins _ σ _ _ I3 q1) fun v2 s2 ⟨y, H2, I4, r2, c2, ms, ey, ne2, e3, e4, l2, q2⟩ => ?_)))
  refine wpAny_bind (wpAny_standAt (wpAny_pure ?_))
  subst ey
  cases r2
  obtain ⟨z3, d3, vs3, rel3, dd3⟩ := dk_of I4.hok e3
  obtain ⟨z4, d4, vs4, rel4, dd4⟩ := dk_of I4.hok e4
  have h3 : vs3.length ≤ 1000 := by
    have h1 := length_mergeK kvs []
    rw [List.length_nil] at h1
    rw [← rel3.length]; omega
  have h4 : vs4.length ≤ 1000 := by rw [← rel4.length]; exact l2
  refine wpAny_bind (wpAny_onRaise (wpAny_tryCatch (wpAny_onRaise (wpAny_holding (merge_dict (knd := mixKind X.prog X.w) (Ne.symm ne2) d4 noref_mix dd3 dd4 (by rw [sizeLine_eq]; omega) fun h'' dd3' dd4' hs2 => ?_)))))
  have hz2 : (mergeK (mergeK [] kvs) ms).length ≤ sizeLine := by
    have h1 := length_mergeK kvs []
    have h2 := length_mergeK ms (mergeK [] kvs)
    rw [List.length_nil] at h1
    rw [sizeLine_eq]; omega
  have he2 : ∃ q, h''.get? s.heap.objs.size = some q := let ⟨q, _, _, hq, _⟩ := dd3'; ⟨q, hq⟩
  have I5 := d_write I4 (by rw [e3]; exact True.intro) hs2 he2 (dk_new hz2 d3 (KV.merge rel4 rel3) dd3') (t' := s2.toks)
  exact wpAny_pure ⟨.ref s.heap.objs.size, _, I5, rfl, q2⟩
end
end Dx
end
section
set_option Elab.async false
set_option autoImplicit false
set_option linter.all false
set_option maxRecDepth 100000
set_option maxHeartbeats 4000000
/-! Dicts merged, a dict walked while it is locked. -/
namespace Dl
open PySem L2 Dx
section
variable {K : PySem.W.Frag} {C : Addr} {S : List Sl} {N M Bk Ct : List Sl → Prop} {R : D → Prop} {t u : TS} {te : TE} {P : D → Prop} {i j k : Nat}
/-- a thing that nobody tells of is changed -/
theorem Holds.poke {Z : Zt} {B H : Hp} {σ : L2.St} (h : Holds K C Z B H σ S) {p : Addr} {o : HO} (nB : B p = none) (nz : ¬ Zat Z p) (no : ¬ OwnAt S σ p) : Holds K C Z B (upd H p o) σ S := by
  refine ⟨h.len, fun a u e => ?_, ⟨fun q l ns e => ?_⟩, fun i s e => ?_, h.apart⟩
  · have ne : a ≠ p := fun z => by rw [z, nB] at e; cases e
    rw [upd_ne ne]; exact h.sub a u e
  · obtain ⟨h1, h2, a, b, c, h3⟩ := h.str.ok q l ns e
    have ne : q ≠ p := fun z => nz ⟨l, ns, by rw [e, z]⟩
    exact ⟨h1, h2, a, b, c, by rw [upd_ne ne]; exact h3⟩
  · have q := h.slot i s e
    cases s with
    | un => trivial
    | im d => exact q
    | st => exact q
    | fz _ _ => exact q
    | sq _ _ => exact q
    | ml ds =>
      obtain ⟨p1, vs, e1, b, z, hh, r⟩ := q
      have ne : p1 ≠ p := fun w => no ⟨i, _, e, rfl, by rw [← w]; exact e1⟩
      exact ⟨p1, vs, e1, b, z, by rw [upd_ne ne]; exact hh, r⟩
    | md ns =>
      obtain ⟨p1, e1, b, z, hh⟩ := q
      have ne : p1 ≠ p := fun w => no ⟨i, _, e, rfl, by rw [← w]; exact e1⟩
      exact ⟨p1, e1, b, z, by rw [upd_ne ne]; exact hh⟩
    | po fs =>
      obtain ⟨p1, dx, ws, e1, b, z, hh, r⟩ := q
      have ne : p1 ≠ p := fun w => no ⟨i, _, e, rfl, by rw [← w]; exact e1⟩
      exact ⟨p1, dx, ws, e1, b, z, by rw [upd_ne ne]; exact hh, r⟩
def mrgI (ns ms : List (Int × Int)) : List (Int × Int) := ms.foldl (fun acc p => putI acc p.1 p.2) ns
theorem kvI_mrg : ∀ (ms ns : List (Int × Int)), mergeK (kvI ns) (kvI ms) = kvI (mrgI ns ms)
  | [], ns => rfl
  | p :: ms, ns => by
    show mergeK (putK (kvI ns) (Sum.inl p.1) (V.int p.2)) (kvI ms) = kvI (mrgI (putI ns p.1 p.2) ms)
    rw [← kvI_put, kvI_mrg ms]
theorem v_merge {ta tb : TE} {ns ms : List (Int × Int)} (h1 : VlD K C ta S (.dic ns)) (h2 : VlD K C tb S (.dic ms)) (l1 : ns.length ≤ 1000) (l2 : ms.length ≤ 1000) : VlD K C (tMerge ta tb) S (.dic (mrgI (mrgI [] ns) ms)) := fun Z B H σ Q hh q => by
  intro p hp
  have nB : B p = none := hh.sub.free hp
  have nz : ¬ Zat Z p := fun z => by
    obtain ⟨u, e⟩ := hh.str.some z
    rw [hp] at e; cases e
  have nown : ¬ OwnAt S σ p := fun o => by
    obtain ⟨_, _, u, e⟩ := hh.ownz o
    rw [hp] at e; cases e
  have stay : ∀ {Bx Hx By Hy : Hp} {o : HO}, Post K Z Bx Hx By Hy → Bx p = none → Hx p = some o → By p = none ∧ Hy p = some o := fun {Bx Hx By Hy o} P a b => by
    refine ⟨?_, P.kp _ _ b nz⟩
    cases z : By p with
    | none => rfl
    | some u =>
      rcases P.fre p u z with w | w
      · rw [a] at w; cases w
      · rw [b] at w; cases w
  have hh0 : Holds K C Z B (upd H p (.dK [])) σ S := hh.poke nB nz nown
  refine h1 Z B _ σ _ hh0 fun v d B1 H1 e1 P1 r1 => ?_
  subst e1
  obtain ⟨nB1, ep1⟩ := stay P1 nB upd_same
  cases r1 with
  | @dic a ns ha =>
    have ha1 : H1 a = some (.dK (kvI ns)) := P1.sub2 _ _ ha
    refine ⟨a, kvI ns, rfl, (fun z => by rw [z, nB1] at ha; cases ha), ep1, ha1, by simpa [kvI] using l1, ?_⟩
    have hh1 : Holds K C Z B1 (upd H1 p (.dK (mergeK [] (kvI ns)))) σ S := (hh0.post P1).poke nB1 nz nown
    refine h2 Z B1 _ σ _ hh1 fun v d B2 H2 e2 P2 r2 => ?_
    subst e2
    obtain ⟨nB2, ep2⟩ := stay P2 nB1 upd_same
    cases r2 with
    | @dic b ms hb =>
      have hb2 : H2 b = some (.dK (kvI ms)) := P2.sub2 _ _ hb
      refine ⟨b, kvI ms, rfl, (fun z => by rw [z, nB2] at hb; cases hb), ep2, hb2, by simpa [kvI] using l2, ?_⟩
      have em : mergeK (mergeK [] (kvI ns)) (kvI ms) = kvI (mrgI (mrgI [] ns) ms) := by
        rw [show ([] : List (Key × V)) = kvI [] from rfl, kvI_mrg, kvI_mrg]
      rw [em]
      refine q (.ref p) _ (upd B2 p (.dK (kvI (mrgI (mrgI [] ns) ms)))) _ rfl ?_ (.dic upd_same)
      have smB : Same B2 (upd B2 p (.dK (kvI (mrgI (mrgI [] ns) ms)))) := fun x u e => by rw [upd_ne (ne_of_none e nB2)]; exact e
      refine ⟨(P1.sub.trans P2.sub).trans smB, fun x u e => ?_, fun x o e z => ?_, fun x o e => ?_, ⟨fun x l ls e => ?_⟩⟩
      · by_cases w : x = p
        · subst w; rw [upd_same] at e ⊢; exact e
        · rw [upd_ne w] at e ⊢; exact P2.sub2 x u e
      · have nx : x ≠ p := ne_of_none e hp
        rw [upd_ne nx]
        refine P2.kp x o ?_ z
        rw [upd_ne nx]
        refine P1.kp x o ?_ z
        rw [upd_ne nx]; exact e
      · by_cases w : x = p
        · subst w; exact .inr hp
        · rw [upd_ne w] at e
          rcases P2.fre x o e with y | y
          · rcases P1.fre x o y with y | y
            · exact .inl y
            · rw [upd_ne w] at y; exact .inr y
          · rw [upd_ne w] at y
            cases e0 : H x with
            | none => exact .inr rfl
            | some u0 =>
              by_cases z : Zat Z x
              · obtain ⟨u', q'⟩ := P1.str.some z
                rw [y] at q'; cases q'
              · have := P1.kp x u0 (by rw [upd_ne w]; exact e0) z
                rw [y] at this; cases this
      · obtain ⟨c1, c2, a', b', c', c3⟩ := P2.str.ok x l ls e
        have nx : x ≠ p := fun w => nz ⟨l, ls, by rw [e, w]⟩
        exact ⟨by rw [upd_ne nx]; exact c1, Same.seq smB c2, a', b', c', by rw [upd_ne nx]; exact c3⟩
/-! a locked dict -/
theorem it_keys {p : Addr} {od : Obj} {ns : List (Int × Int)} (hj : S[j]? = some (.fz p (.frz od (.dK (kvI ns))))) : ItD K C (iKeys (tVar j)) S (ns.map fun o => .int o.1) := fun Z B H σ R hh q => by
  obtain ⟨e1, e2⟩ := hh.slot j _ hj
  refine ⟨.ref p, e1, p, od, rfl, .inl ⟨kvI ns, hh.sub _ _ e2, q _ B H (.refl hh) fun i B1 H1 s1 s2 str => ?_⟩⟩
  have hq : H1 p = some (.frz od (.dK (kvI ns))) := s2 _ _ (s1 _ _ e2)
  refine ⟨fun e => ⟨hq, by rw [e]; simp [kvI]⟩, fun d e => ?_⟩
  rw [List.getElem?_map] at e
  cases e3 : ns[i]? with
  | none => rw [e3] at e; cases e
  | some o =>
    rw [e3] at e
    cases e
    have hlt := (List.getElem?_eq_some_iff.mp e3).1
    refine ⟨⟨hq, by simpa [kvI] using hlt⟩, ?_⟩
    rintro x H' ⟨rfl, k, v, e4, rfl⟩
    unfold kvI at e4
    rw [List.getElem?_map, e3] at e4
    cases e4
    exact ⟨B1, ⟨.refl B1, s2, .refl, .refl, str⟩, .int _⟩
theorem v_dgetF {ty : TE} {p : Addr} {od : Obj} {ns : List (Int × Int)} {k n : Int} (hj : S[j]? = some (.fz p (.frz od (.dK (kvI ns))))) (h2 : VlD K C ty S (.int k)) (hg : getI ns k = some n) : VlD K C (tDGet (tVar j) ty) S (.int n) := fun Z B H σ Q hh q => by
  obtain ⟨e1, e2⟩ := hh.slot j _ hj
  refine ⟨.ref p, e1, ?_⟩
  refine h2 Z B H σ _ hh fun v x B2 H2 pp P2 r2 => ?_
  subst pp
  cases r2
  refine ⟨p, .int n, rfl, .inl ⟨kvI ns, Sum.inl k, .inr ⟨od, P2.sub2 _ _ (P2.sub _ _ e2)⟩, rfl, ?_⟩, q _ _ B2 H2 rfl P2 (.int n)⟩
  rw [kvI_get, hg]
  rfl
end
end Dl
end
section
set_option Elab.async false
set_option autoImplicit false
set_option linter.all false
set_option maxRecDepth 100000
set_option maxHeartbeats 4000000
/-! Defs that raise. -/
namespace Dl
open PySem L2
/-- the error class of the text -/
structure Et (K : PySem.W.Frag) (mg : Str → Option Value) (cT : Addr) : Prop where
  g : mg "TooLarge" = some (.ref cT)
  k : PySem.W.keepIn K (.ref cT) = true
  x : PySem.W.excIn K cT [.type "ValueError", .type "Exception", .type "BaseException", .type "object"] "ValueError.__new__" = true
  b : PySem.W.subIn K (.ref cT) (.type "BaseException") = some true
  t : PySem.W.typeIn K (.ref cT) = some (.type "type")
  e : PySem.W.exmOne K (.ref cT) (.ref cT) = some true
structure De (P : Program) (w : World) (K : PySem.W.Frag) (mg : Str → Option Value) (base : Heap) (k : Nat) (x : Str) (ps : List Str) (sp : Sp) : Prop where
  ex : ∃ f fd, mg x = some (.ref f) ∧ PySem.W.keepIn K (.ref f) = true ∧ Binds K fd ps [] ∧ FnOk P w K mg base (L2.CX P w) k f fd ps sp
theorem de_mk {P : Program} {w : World} {K : PySem.W.Frag} {mg : Str → Option Value} {base : Heap} {k : Nat} {x : Str} {ps : List Str} {sp : Sp} {f : Addr} {fd : FuncData} (hm : mg x = some (.ref f)) (kp : PySem.W.keepIn K (.ref f) = true) (b : Binds K fd ps []) (F : FnOk P w K mg base (L2.CX P w) k f fd ps sp) :
    De P w K mg base k x ps sp := ⟨f, fd, hm, kp, b, F⟩
/-- raise X('..') -/
def tRz (EX : XK) (cT : Addr) : TS := fun _ _ H => EX (.ref cT) none H
theorem pe_calX {X : Cx} {k : Nat} {x : Str} {ps : List Str} {sp : Sp} {E : L2.St → XK} {p pos : Pos} {e : Expr} {es : List Expr} {t : TA} (D : De X.prog X.w X.K X.mg X.base k x ps sp) (hr : Room k X.A) (hg : Gl X x) (hx : ∀ σ, PassesAt (L2.CX X.prog X.w) X σ (E σ)) (ha : PA X (e :: es) t) (hd : (x == ("__debug__" : Str)) = false := by decide)
    (hn : starEach (e :: es) X.env = (false, eval e X.env) :: starEach es X.env := by rfl) (hpl : (backTo pos (starEach es X.env)).any (·.1) = false := by rfl) : PE X (.Call (.Name x p) (e :: es) [] pos) (tCallS sp E t) := by
  obtain ⟨f, fd, hm, kp, b, F⟩ := D.ex
  exact pe_callS F hr hg hm kp b hx ha hd hn hpl
section
variable {K : PySem.W.Frag} {C : Addr}
/-- a promise with a raising way -/
def spX (K : PySem.W.Frag) (C : Addr) {G : Type} (n : Nat) (args : G → List Sl) (pre : G → Prop) (post : G → D → Prop) (bad : G → Prop) (cT : Addr) : Sp := fun vs H Q E =>
  ∃ (Z : Zt) (B : Hp) (g : G), vs.length = n ∧ (args g).length = n ∧ (∀ s ∈ args g, s.own = false) ∧ Holds K C Z B H (vs.map some) (args g) ∧ pre g ∧ (∀ v d B' H', post g d → Post K Z B H B' H' → Rep K C B' v d → Q v H') ∧
    (bad g → ∀ B' H', Post K Z B H B' H' → E (.ref cT) none H')
theorem spX_len {G : Type} {n : Nat} {args : G → List Sl} {pre : G → Prop} {post : G → D → Prop} {bad : G → Prop} {cT : Addr} (vs : List V) (H : Hp) (Q : VK) (E : XK) (h : spX K C n args pre post bad cT vs H Q E) : vs.length = n := by
  obtain ⟨Z, B, g, hv, _⟩ := h
  exact hv
/-- where a body begins -/
theorem start_hold {n : Nat} {ss : List Sl} {N : List Str} {Z : Zt} {B H : Hp} {vs : List V} (hv : vs.length = n) (ha : ss.length = n) (hno : ∀ s ∈ ss, s.own = false) (hold : Holds K C Z B H (vs.map some) ss) :
    Holds K C Z B H (L2.start N vs) (ss ++ List.replicate (N.length - n) .un) ∧ ∀ a, ¬ OwnAt (ss ++ List.replicate (N.length - n) .un) (L2.start N vs) a := by
  have hno2 : ∀ s ∈ ss ++ List.replicate (N.length - n) Sl.un, s.own = false := fun s hs => by
    rcases List.mem_append.mp hs with h | h
    · exact hno s h
    · rw [List.eq_of_mem_replicate h]; rfl
  refine ⟨⟨?_, hold.sub, hold.str, fun i s e => ?_, fun i j s t _ e1 _ o1 _ => ?_⟩, fun a ⟨i, s, e, o, _⟩ => ?_⟩
  · unfold L2.start
    rw [List.length_append, List.length_append, List.length_map, List.length_replicate, List.length_replicate, hv, ha]
  · unfold L2.start
    by_cases hi : i < n
    · rw [List.getElem?_append_left (by omega)] at e
      rw [List.getElem?_append_left (by rw [List.length_map]; omega)]
      exact hold.slot i s e
    · rw [List.getElem?_append_right (by omega)] at e
      have := List.eq_of_mem_replicate (List.mem_of_getElem? e)
      subst this
      trivial
  · have := hno2 s (List.mem_of_getElem? e1)
    rw [o1] at this; cases this
  · have := hno2 s (List.mem_of_getElem? e)
    rw [o] at this; cases this
theorem Step.post {Z : Zt} {B H B' H' : Hp} {σ σ' : L2.St} {S S' : List Sl} (st : Step K C Z B H σ S B' H' σ' S') (nown : ∀ a, ¬ OwnAt S σ a) : Post K Z B H B' H' :=
  ⟨st.sub, st.hold.sub, fun a o e z => (st.kp a o e z (nown a)).1, fun a o e => (st.fre a o e).imp id fun q => q.elim id fun z => (nown a z).elim, st.hold.str⟩
theorem Fin.post {Z : Zt} {B H B' H' : Hp} {σ : L2.St} {S : List Sl} (f : Fin K C Z B H σ S B' H') (nown : ∀ a, ¬ OwnAt S σ a) : Post K Z B H B' H' :=
  ⟨f.sub, f.sub2, fun a o e z => f.kp a o e z (nown a), fun a o e => (f.fre a o e).imp id fun q => q.elim id fun z => (nown a z).elim, f.str⟩
end
end Dl
end
section
set_option Elab.async false
set_option autoImplicit false
set_option linter.all false
set_option maxRecDepth 100000
set_option maxHeartbeats 4000000
/-! The script's list, pure expressions. -/
namespace Dl
open PySem L2
section
variable {K : PySem.W.Frag} {C : Addr} {S : List Sl} {N M Bk Ct : List Sl → Prop} {R : D → Prop} {t u : TS} {te : TE} {P : D → Prop} {i j k : Nat}
theorem a_sqV {a : Addr} {vs : List V} {ta : TA} {ss : List Sl} (h : S[i]? = some (.sq a vs)) (h2 : AgD K C ta S (fun x => x = ss)) : AgD K C (tCons (tVar i) ta) S (fun x => x = .sq a vs :: ss) := fun Z B H σ Q hh q => by
  obtain ⟨e1, e2⟩ := hh.slot i _ h
  refine ⟨.ref a, e1, ?_⟩
  refine h2 Z B H σ _ hh fun ws rs B1 H1 e P1 r1 => ?_
  subst e
  exact q _ _ B1 H1 rfl P1 (.cons ⟨rfl, Same.seq P1.sub e2⟩ r1)
theorem it_sq {a : Addr} {ns : List Int} (h : S[i]? = some (.sq a (ns.map V.int))) : ItD K C (iList K (tVar i)) S (ns.map D.int) := fun Z B H σ R hh q => by
  obtain ⟨e1, e2⟩ := hh.slot i _ h
  have eH : SqL K H a (ns.map V.int) := Same.seq hh.sub e2
  refine ⟨.ref a, e1, a, rfl, ⟨_, eH⟩, q _ B H (.refl hh) fun i B2 H2 s1 s2 str => ?_⟩
  have hS : SqL K H2 a (ns.map V.int) := Same.seq s2 (Same.seq s1 e2)
  refine ⟨fun e => ⟨_, hS, by rw [e]; simp⟩, fun d e => ?_⟩
  rw [List.getElem?_map] at e
  cases e3 : ns[i]? with
  | none => rw [e3] at e; cases e
  | some n =>
    rw [e3] at e
    cases e
    have ex : (ns.map V.int)[i]? = some (.int n) := by rw [List.getElem?_map, e3]; rfl
    refine ⟨⟨_, _, hS, ex⟩, ?_⟩
    rintro y H' ⟨rfl, hy⟩
    have e4 := hy _ hS
    rw [ex] at e4
    cases e4
    exact ⟨B2, ⟨.refl B2, s2, .refl, .refl, str⟩, .int n⟩
theorem v_listS {a : Addr} {ns : List Int} (h : S[i]? = some (.sq a (ns.map V.int))) : VlD K C (tCB (rListS K) (tCons (tVar i) tNil)) S (.lst (ns.map D.int)) := fun Z B H σ Q hh q => by
  obtain ⟨e1, e2⟩ := hh.slot i _ h
  have eH : SqL K H a (ns.map V.int) := Same.seq hh.sub e2
  refine ⟨.ref a, e1, a, _, rfl, .inl eH, fun l hl => ?_⟩
  have P1 := Post.new (o := .lst (ns.map V.int)) hh.sub hh.str hl
  exact q _ _ _ _ rfl P1 (.lst upd_same (.ints ns))
/-! ### pure expressions -/
def Pu (te : TE) (σ : L2.St) (H : Hp) (v : V) : Prop := ∀ Q : VK, Q v H → te σ H Q
def PuT (tt : TT) (σ : L2.St) (H : Hp) (b : Bool) : Prop := ∀ Q : Bool → Hp → Prop, Q b H → tt σ H Q
variable {σ : L2.St} {H : Hp} {v w z : V}
theorem pu_var (h : σ[i]? = some (some v)) : Pu (tVar i) σ H v := fun Q q => ⟨v, h, q⟩
theorem pu_c : Pu (tC v) σ H v := fun Q q => q
theorem pu_op {r : R2} {ta tb : TE} (ha : Pu ta σ H v) (hb : Pu tb σ H w) (hr : ∀ Q : VK, Q z H → r v w H Q) : Pu (tOp r ta tb) σ H z := fun Q q => ha _ (hb _ (hr Q q))
theorem pu_cb {r : List V → Hp → VK → Prop} {ta : TE} (ha : Pu ta σ H v) (hr : ∀ Q : VK, Q z H → r [v] H Q) : Pu (tCB r (tCons ta tNil)) σ H z := fun Q q => ha _ (hr Q q)
theorem pu_mul {ta tb : TE} {a b : Int} (ha : Pu ta σ H (.int a)) (hb : Pu tb σ H (.int b)) (h1 : -(2 ^ 64) < a) (h2 : a < 2 ^ 64) : Pu (tMul ta tb) σ H (.int (a * b)) := fun Q q => ha _ (hb _ ⟨a, b, rfl, rfl, ⟨h1, h2⟩, q⟩)
theorem put_test {b : Bool} (h : Pu te σ H (.bl b)) : PuT (tTest te) σ H b := fun Q q => h _ ⟨b, rfl, q⟩
theorem put_and {ta tb : TT} {a b : Bool} (ha : PuT ta σ H a) (hb : a = true → PuT tb σ H b) : PuT (tAnd ta tb) σ H (a && b) := fun Q q => ha _ (by
  cases a with
  | true => exact iteT (hb rfl Q (by simpa using q))
  | false => exact iteF (by simpa using q))
theorem pu_ix {xs : List V} {p : Addr} {i : Int} (h : SqL K H p xs) (e : atI xs i = some v) : ∀ Q : VK, Q v H → rIx K (.ref p) (.int i) H Q := fun Q q => .inl ⟨p, xs, i, v, rfl, rfl, h, e, q⟩
end
end Dl
end
section
set_option Elab.async false
set_option autoImplicit false
set_option linter.all false
set_option maxRecDepth 100000
set_option maxHeartbeats 4000000
/-! Plain facts about nodes: lifting, putting, node by node. -/
namespace Wk
open PySem L2 Dl Lam
def isNode (x : D) : Prop := (∃ n : Nat, x = .int (n : Int)) ∨ x = .str "lam" ∨ x = .str "app"
theorem enc_node : ∀ (t : Tm) (x : D), x ∈ enc t → isNode x
  | .var n, x, h => by simp only [enc, List.mem_singleton] at h; exact .inl ⟨n, h⟩
  | .lam b, x, h => by
    simp only [enc, List.mem_cons] at h
    rcases h with h | h
    · exact .inr (.inl h)
    · exact enc_node b x h
  | .app f y, x, h => by
    simp only [enc, List.mem_cons, List.mem_append] at h
    rcases h with h | h | h
    · exact .inr (.inr h)
    · exact enc_node f x h
    · exact enc_node y x h
theorem enc_inj2 : ∀ (t u : Tm) (a b : List D), enc t ++ a = enc u ++ b → t = u ∧ a = b
  | .var n, .var m, a, b, h => by
    simp only [enc, List.cons_append, List.nil_append, List.cons.injEq, D.int.injEq] at h
    exact ⟨by rw [show n = m by omega], h.2⟩
  | .lam c, .lam d, a, b, h => by
    simp only [enc, List.cons_append, List.cons.injEq] at h
    obtain ⟨e1, e2⟩ := enc_inj2 c d a b h.2
    exact ⟨by rw [e1], e2⟩
  | .app f x, .app g y, a, b, h => by
    simp only [enc, List.cons_append, List.cons.injEq, List.append_assoc] at h
    obtain ⟨e1, e2⟩ := enc_inj2 f g _ _ h.2
    obtain ⟨e3, e4⟩ := enc_inj2 x y a b e2
    exact ⟨by rw [e1, e3], e4⟩
  | .var _, .lam _, a, b, h => by simp [enc] at h
  | .var _, .app _ _, a, b, h => by simp [enc] at h
  | .lam _, .var _, a, b, h => by simp [enc] at h
  | .app _ _, .var _, a, b, h => by simp [enc] at h
  | .lam _, .app _ _, a, b, h => by
    simp only [enc, List.cons_append, List.cons.injEq, D.str.injEq] at h
    exact absurd h.1 (of_decide_eq_false str_ne1)
  | .app _ _, .lam _, a, b, h => by
    simp only [enc, List.cons_append, List.cons.injEq, D.str.injEq] at h
    exact absurd h.1 (of_decide_eq_false str_ne2)
theorem enc_inj {t u : Tm} (h : enc t = enc u) : t = u := (enc_inj2 t u [] [] (by rw [h])).1
theorem strok_lam : PyData.strOk ("lam" : Str) = true := by decide +kernel
theorem strok_app : PyData.strOk ("app" : Str) = true := by decide +kernel
theorem isqs_app : ∀ (k : Nat) (a b : List D), isqs k (a ++ b) = (isqs k a && isqs k b)
  | k, [], b => by simp [isqs]
  | k, d :: a, b => by simp only [List.cons_append, isqs]; rw [isqs_app k a b, Bool.and_assoc]
theorem isqs_enc (k : Nat) : ∀ t : Tm, isqs k (enc t) = true
  | .var n => by cases k <;> simp [enc, isqs, isq]
  | .lam b => by cases k <;> simp [enc, isqs, isq, strok_lam, isqs_enc _ b]
  | .app f x => by
    have e1 := isqs_enc k f
    have e2 := isqs_enc k x
    cases k <;> simp [enc, isqs, isq, strok_app, isqs_app, e1, e2]
theorem isq_enc (t : Tm) : isq 1 (.tup (enc t)) = true := by simp only [isq]; exact isqs_enc 0 t
theorem encT_iff {t u : Tm} {b : Bool} (h : b = true ↔ t = u) : b = true ↔ D.tup (enc t) = D.tup (enc u) := by
  rw [h]
  constructor
  · intro e; rw [e]
  · intro e; exact enc_inj (by simpa using e)
/-! lifting -/
def lf (c : Nat) : Nat → Tm → Tm
  | d, .var n => if n ≥ d then .var (n + c) else .var n
  | d, .lam b => .lam (lf c (d + 1) b)
  | d, .app f x => .app (lf c d f) (lf c d x)
def upn : Nat → (Nat → Nat) → Nat → Nat
  | 0, r => r
  | d + 1, r => upr (upn d r)
theorem upn_add (c : Nat) : ∀ (d n : Nat), upn d (· + c) n = if n ≥ d then n + c else n
  | 0, n => by simp [upn]
  | d + 1, 0 => by simp [upn, upr]
  | d + 1, n + 1 => by
    simp only [upn, upr]
    rw [upn_add c d n]
    by_cases h : n ≥ d
    · rw [if_pos h, if_pos (by omega)]; omega
    · rw [if_neg h, if_neg (by omega)]
theorem lf_ren (c : Nat) : ∀ (t : Tm) (d : Nat), lf c d t = ren (upn d (· + c)) t
  | .var n, d => by
    simp only [lf, ren]
    rw [upn_add]
    by_cases h : n ≥ d
    · rw [if_pos h, if_pos h]
    · rw [if_neg h, if_neg h]
  | .lam b, d => by simp only [lf, ren]; rw [lf_ren c b (d + 1)]; rfl
  | .app f x, d => by simp only [lf, ren]; rw [lf_ren c f d, lf_ren c x d]
abbrev lift (c : Nat) (t : Tm) : Tm := ren (· + c) t
theorem lf_lift (c : Nat) (t : Tm) : lf c 0 t = lift c t := lf_ren c t 0
theorem size_lift (c : Nat) (t : Tm) : size (lift c t) = size t := size_ren t
/-- a node at a depth, lifted -/
def ndL (c : Nat) (x : D) (w : Nat) : D := match x with
  | .int i => if i ≥ (w : Int) then .int (i + (c : Int)) else .int i
  | y => y
theorem ndL_map (c : Nat) : ∀ (t : Tm) (d : Nat), (enc t).zipWith (ndL c) (dep d t) = enc (lf c d t)
  | .var n, d => by
    simp only [enc, dep, lf, List.zipWith_cons_cons, List.zipWith_nil_left]
    by_cases h : n ≥ d
    · rw [if_pos h]
      simp only [enc, ndL]
      rw [if_pos (by omega)]
      simp
    · rw [if_neg h]
      simp only [enc, ndL]
      rw [if_neg (by omega)]
  | .lam b, d => by
    simp only [enc, dep, lf, List.zipWith_cons_cons]
    rw [ndL_map c b]
    rfl
  | .app f x, d => by
    simp only [enc, dep, lf, List.zipWith_cons_cons]
    rw [List.zipWith_append (by rw [enc_len, dep_len]), ndL_map c f, ndL_map c x]
    rfl
/-! putting -/
def pt (v : Tm) : Nat → Tm → Tm
  | d, .var n => if n < d then .var n else if n = d then lift d v else .var (n - 1)
  | d, .lam b => .lam (pt v (d + 1) b)
  | d, .app f x => .app (pt v d f) (pt v d x)
def upsn : Nat → (Nat → Tm) → Nat → Tm
  | 0, s => s
  | d + 1, s => ups (upsn d s)
def ptv (v : Tm) (d n : Nat) : Tm := if n < d then .var n else if n = d then lift d v else .var (n - 1)
theorem ptv_up (v : Tm) (d n : Nat) : ren Nat.succ (ptv v d n) = ptv v (d + 1) (n + 1) := by
  unfold ptv
  by_cases h : n < d
  · rw [if_pos h, if_pos (show n + 1 < d + 1 by omega)]; rfl
  · rw [if_neg h, if_neg (show ¬ n + 1 < d + 1 by omega)]
    by_cases h2 : n = d
    · rw [if_pos h2, if_pos (show n + 1 = d + 1 by omega), ren_ren]
      rfl
    · rw [if_neg h2, if_neg (show ¬ n + 1 = d + 1 by omega)]
      simp only [ren]
      congr 1
      omega
theorem lift_zero (v : Tm) : lift 0 v = v := ren_id v
theorem upsn_put (v : Tm) : ∀ (d n : Nat), upsn d (scons v .var) n = ptv v d n
  | 0, 0 => by
    show v = ptv v 0 0
    unfold ptv
    rw [if_neg (Nat.lt_irrefl 0), if_pos rfl, lift_zero]
  | 0, n + 1 => by simp [upsn, scons, ptv]
  | d + 1, 0 => by simp [upsn, ups, ptv]
  | d + 1, n + 1 => by
    show ren Nat.succ (upsn d (scons v .var) n) = _
    rw [upsn_put v d n, ptv_up]
theorem pt_sub (v : Tm) : ∀ (t : Tm) (d : Nat), pt v d t = sub (upsn d (scons v .var)) t
  | .var n, d => by simp only [pt, sub]; rw [upsn_put]; rfl
  | .lam b, d => by simp only [pt, sub]; rw [pt_sub v b (d + 1)]; rfl
  | .app f x, d => by simp only [pt, sub]; rw [pt_sub v f d, pt_sub v x d]
theorem pt_inst (v t : Tm) : pt v 0 t = inst t v := pt_sub v t 0
/-- the nodes that a node at a depth becomes -/
def ndP (v : Tm) (x : D) (w : Nat) : List D := match x with
  | .int i => if i < (w : Int) then [.int i] else if i = (w : Int) then enc (lift w v) else [.int (i - 1)]
  | y => [y]
theorem ndP_map (v : Tm) : ∀ (t : Tm) (d : Nat), ((enc t).zipWith (ndP v) (dep d t)).flatten = enc (pt v d t)
  | .var n, d => by
    simp only [enc, dep, pt, List.zipWith_cons_cons, List.zipWith_nil_left]
    by_cases h : n < d
    · rw [if_pos h]
      simp only [enc, ndP]
      rw [if_pos (by omega)]
      rfl
    · rw [if_neg h]
      simp only [ndP]
      rw [if_neg (by omega)]
      by_cases h2 : n = d
      · rw [if_pos h2, if_pos (by omega)]; simp
      · rw [if_neg h2, if_neg (by omega)]
        simp only [enc, List.flatten_cons, List.flatten_nil, List.append_nil]
        congr 2
        omega
  | .lam b, d => by
    simp only [enc, dep, pt, List.zipWith_cons_cons, List.flatten_cons]
    rw [ndP_map v b]
    rfl
  | .app f x, d => by
    simp only [enc, dep, pt, List.zipWith_cons_cons, List.flatten_cons]
    rw [List.zipWith_append (by rw [enc_len, dep_len]), List.flatten_append, ndP_map v f, ndP_map v x]
    rfl
/-! the variables of a term -/
def vars : Tm → List Int
  | .var n => [(n : Int)]
  | .lam b => vars b
  | .app f x => vars f ++ vars x
def onlyI : D → Option D
  | .int i => some (.int i)
  | _ => none
theorem vars_enc : ∀ t : Tm, (enc t).filterMap onlyI = (vars t).map D.int
  | .var n => rfl
  | .lam b => by simp only [enc, vars]; rw [List.filterMap_cons]; simp only [onlyI]; exact vars_enc b
  | .app f x => by simp only [enc, vars]; rw [List.filterMap_cons, List.filterMap_append, vars_enc f, vars_enc x, List.map_append]; rfl
/-- all variables are at most m -/
def vle (m : Nat) : Tm → Prop
  | .var n => n ≤ m
  | .lam b => vle m b
  | .app f x => vle m f ∧ vle m x
theorem vars_le {m : Nat} : ∀ {t : Tm}, vle m t → ∀ z ∈ vars t, z ≤ (m : Int)
  | .var n, h, z, hz => by
    simp only [vars, List.mem_singleton] at hz
    have h' : n ≤ m := h
    omega
  | .lam b, h, z, hz => vars_le (t := b) h z hz
  | .app f x, h, z, hz => by
    simp only [vars, List.mem_append] at hz
    rcases hz with hz | hz
    · exact vars_le (t := f) h.1 z hz
    · exact vars_le (t := x) h.2 z hz
/-- the free variables are below k -/
def cl : Nat → Tm → Prop
  | k, .var n => n < k
  | k, .lam b => cl (k + 1) b
  | k, .app f x => cl k f ∧ cl k x
theorem cl_mono : ∀ {t : Tm} {k l : Nat}, cl k t → k ≤ l → cl l t
  | .var n, k, l, h, hl => Nat.lt_of_lt_of_le h hl
  | .lam b, k, l, h, hl => cl_mono (t := b) (k := k + 1) (l := l + 1) h (Nat.succ_le_succ hl)
  | .app f x, k, l, h, hl => ⟨cl_mono h.1 hl, cl_mono h.2 hl⟩
theorem vle_mono : ∀ {t : Tm} {m n : Nat}, vle m t → m ≤ n → vle n t
  | .var k, m, n, h, hl => Nat.le_trans h hl
  | .lam b, m, n, h, hl => vle_mono (t := b) h hl
  | .app f x, m, n, h, hl => ⟨vle_mono h.1 hl, vle_mono h.2 hl⟩
theorem cl_vle : ∀ {t : Tm} {k : Nat}, cl k t → vle (k + size t) t
  | .var n, k, h => by
    have h' : n < k := h
    show n ≤ k + 1
    omega
  | .lam b, k, h => by
    have := cl_vle (t := b) (k := k + 1) h
    exact vle_mono this (by simp only [size]; omega)
  | .app f x, k, h => ⟨vle_mono (cl_vle h.1) (by simp only [size]; omega), vle_mono (cl_vle h.2) (by simp only [size]; omega)⟩
theorem cl_lf (c : Nat) : ∀ {t : Tm} {k d : Nat}, cl k t → cl (k + c) (lf c d t)
  | .var n, k, d, h => by
    have h' : n < k := h
    simp only [lf]
    by_cases g : n ≥ d
    · rw [if_pos g]; show n + c < k + c; omega
    · rw [if_neg g]; show n < k + c; omega
  | .lam b, k, d, h => by
    have := cl_lf c (t := b) (k := k + 1) (d := d + 1) h
    show cl (k + c + 1) (lf c (d + 1) b)
    rw [show k + c + 1 = k + 1 + c by omega]
    exact this
  | .app f x, k, d, h => ⟨cl_lf c h.1, cl_lf c h.2⟩
theorem cl_lift {c k : Nat} {t : Tm} (h : cl k t) : cl (k + c) (lift c t) := by
  rw [← lf_lift]
  exact cl_lf c h
theorem max_ex : ∀ (ns : List Int), ∃ m : Int, (ns = [] → m = 0) ∧ (ns ≠ [] → m ∈ ns ∧ ∀ y ∈ ns, y ≤ m)
  | [] => ⟨0, fun _ => rfl, fun h => absurd rfl h⟩
  | n :: ns => ⟨PySem.W.maxOf n ns, fun h => (by cases h), fun _ => Dx.maxOf_int ns n⟩
end Wk
end
section
set_option Elab.async false
set_option autoImplicit false
set_option linter.all false
set_option maxRecDepth 100000
set_option maxHeartbeats 4000000
/-! checked, lifted, lift, _law_lift, _law_put, _law_step. -/
namespace Wk
open PySem L2 Dl Dx Lam
def sp_checked (K : PySem.W.Frag) (C : Addr) : Sp := spG K C 1 (fun t : Tm => [.im (.tup (enc t))]) (fun t => size t ≤ 1000 ∧ vle 1000000 t) (fun t d => d = .tup (enc t))
abbrev s_checked : Stmt := topS 8
abbrev n_checked : List Str := ["nodes", "node"]
theorem sc_checked : FnScope n_checked ["nodes"] (defScope s_checked) := ⟨rfl, rfl, rfl, by decide +kernel, rfl, by decide +kernel, by decide +kernel⟩
-- calls: []; level 1; slots: 0:nodes 1:node
def t_checked (K : PySem.W.Frag) (C : Addr) : TS := tSeq (tIfS (tOr (tTest (tOp (rGtI) (tCB (rLenS K) (tCons (tVar 0) (tNil))) (tC (.int 1000)))) (tTest (tOp (rGtI) (tCKw (rMaxDef K) (tCons (tLc (iTup K (tVar 0)) (gName 1) (tB (tIsi K (tVar 1) "int")) (tVar 1) [1]) tNil) (tCons (tC (.int 0)) tNil)) (tC (.int 1000000))))) (tNever) (tNext)) (tRet (tCB (rTupS K) (tCons (tVar 0) (tNil))))
theorem tsOr {K : PySem.W.Frag} {C : Addr} {S : List Sl} {t u : TT} (h1 : TsD K C t S (fun b => b = false)) (h2 : TsD K C u S (fun b => b = false)) : TsD K C (tOr t u) S (fun b => b = false) := t_orV (a := false) h1 fun _ => h2
theorem dec_ff {p : Prop} [Decidable p] (h : ¬ p) : decide p = false := decide_eq_false h
theorem v_is {K : PySem.W.Frag} {C : Addr} {S : List Sl} {te : TE} {d e : D} (h : VlD K C te S d) (q : d = e) : VlD K C te S e := by rw [← q]; exact h
theorem ts_is {K : PySem.W.Frag} {C : Addr} {S : List Sl} {tt : TT} {b c : Bool} (h : TsD K C tt S (fun x => x = b)) (q : b = c) : TsD K C tt S (fun x => x = c) := by rw [← q]; exact h
theorem c_checked (K : PySem.W.Frag) (C : Addr) (t : Tm) (hp : size t ≤ 1000 ∧ vle 1000000 t) (_ : ([.im (.tup (enc t))] : List Sl).length = 1) :
    CmD K C (t_checked K C) ([.im (.tup (enc t))] ++ List.replicate (n_checked.length - 1) .un) (fun _ => (.non : D) = .tup (enc t)) (fun d => d = .tup (enc t)) no no := by
  obtain ⟨m, h0, h1⟩ := max_ex (vars t)
  have hm : m ≤ 1000000 := by
    by_cases e : vars t = []
    · rw [h0 e]; decide
    · exact vars_le hp.2 m (h1 e).1
  have hl := enc_len t
  have lcv : VlD K C (tLc (iTup K (tVar 0)) (gName 1) (tB (tIsi K (tVar 1) "int")) (tVar 1) [1]) [.im (.tup (enc t)), .un] (.lst ((vars t).map D.int)) := by
    rw [← vars_enc]
    refine v_lcm onlyI (it_tup (e_var rfl)) rfl (fun d hd => ?_) (by rw [hl]; omega)
    rcases enc_node t d hd with ⟨n, rfl⟩ | rfl | rfl
    · exact ⟨true, t_bV (v_isiI (e_var rfl)), fun _ => ⟨_, rfl, e_var rfl⟩, (fun e => by cases e)⟩
    · exact ⟨false, t_bV (v_isiS (e_var rfl)), (fun e => by cases e), fun _ => rfl⟩
    · exact ⟨false, t_bV (v_isiS (e_var rfl)), (fun e => by cases e), fun _ => rfl⟩
  refine q_no (tsOr (ts_is (t_testV (v_op (v_cb (a_consV (e_var rfl) a_nil) k_lenT (ds := [.tup (enc t)])) e_int o_gt)) (dec_ff (by rw [hl]; omega))) (ts_is (t_testV (v_op (v_maxDef lcv h0 h1) e_int o_gt)) (dec_ff (by omega)))) (q_next ?_)
  exact c_retV (v_cb (a_consV (e_var rfl) a_nil) k_tupT (ds := [.tup (enc t)])) rfl
theorem ok_checked {P : Program} {w : World} {K : PySem.W.Frag} {mg : Str → Option Value} {base : Heap} {C aI f : Addr} {fd : FuncData} (X : Tx K mg C aI) (F : Fun K "checked" "checked" s_checked f fd) (hm : mg "checked" = some (.ref f))  :
    Df P w K mg base 1 "checked" ["nodes"] (sp_checked K C) :=
  df_mk hm F.kp (F.binds fun _ _ _ _ _ _ us hl => match us, hl with | [_], _ => rfl) (F.ok sc_checked spG_len fun cdv A outer s H vs Q E hr h => ⟨t_checked K C, pss_cons (ps_if (PW.pt (pw_or (pt_cmpR (op_gt) (pe_callB call_len_seq (by rfl) X.len (by decide +kernel) (pa_cons (pv 0) (pa_nil))) (pe_globI (by rfl) X.MOST_NODES) (nomark _)) (pw_or1 (pt_cmpR (op_gt) (pe_callBK (cr_maxDef rfl hr) (by rfl) X.max (by decide +kernel) (pa_cons (pe_lc (own := [("node", 1)]) (g := gName 1) rfl sc_checked.nd (pi_tup (pv 0)) (blkOk_by (own := [("node", 1)]) (N := n_checked) (sc := defScope s_checked) (by decide +kernel)) (fun _ _ _ _ _ => pg_name (i := 1) sc_checked.nd rfl (by first | exact Or.inl rfl | exact Or.inr rfl)) (fun _ _ _ _ _ => pts_one (pt_val (pe_callB call_isi (by rfl) X.isinstance (by decide +kernel) (pa_cons (pv 1) (pa_cons (pe_bltn (v := .ty "int") (by rfl) X.int (by decide +kernel) rfl) pa_nil))))) (fun _ _ _ _ _ => pv 1)) pa_nil) (pk_cons pe_int pk_nil)) (pe_globI (by rfl) X.MOST_VARIABLE) (nomark _))))) (pss_one (ps_never)) (pss_nil)) (pss_one (ps_ret (pe_callTy call_tuple_of (by rfl) X.tuple (by decide +kernel) (pa_cons (pv 0) (pa_nil))))), run_of (E := E) (c_checked K C) h⟩)
structure GLift where
  t : Tm
  c : Nat
abbrev aLift (g : GLift) : List Sl := [.im (.tup (enc g.t)), .im (.int (g.c : Int))]
def sp_lifted (K : PySem.W.Frag) (C : Addr) : Sp := spG K C 2 aLift (fun g => size g.t < 1000000) (fun g d => d = .tup (enc (lift g.c g.t)))
def sp__law_lift (K : PySem.W.Frag) (C : Addr) : Sp := spG K C 2 aLift (fun g => size g.t < 1000000) (fun g d => d = .tup (enc (lift g.c g.t)))
abbrev s_lifted : Stmt := topS 12
abbrev n_lifted : List Str := ["nodes", "count", "found", "node", "depth"]
theorem sc_lifted : FnScope n_lifted ["nodes", "count"] (defScope s_lifted) := ⟨rfl, rfl, rfl, by decide +kernel, rfl, by decide +kernel, by decide +kernel⟩
-- calls: ['depths']; level 2; slots: 0:nodes 1:count 2:found 3:node 4:depth
def t_lifted (K : PySem.W.Frag) (C : Addr) : TS := tSeq (tAsg (tLst (tNil)) (gName 2)) (tSeq (tFor (iZipM K (tCons (tVar 0) (tCons (tCall (sp_depths K C) [] E0 (tCons (tVar 0) (tNil))) (tNil)))) (gTup K 2 (gCons (gName 3) (gCons (gName 4) (gNil)))) (tIfS (tAnd (tB (tIsi K (tVar 3) "int")) (tTest (tOp (rGeI) (tVar 3) (tVar 4)))) (tDrop (tBM K "list" (rAppend) (tVar 2) (tCons (tOp (rAddI) (tVar 3) (tVar 1)) (tNil)))) (tDrop (tBM K "list" (rAppend) (tVar 2) (tCons (tVar 3) (tNil)))))) (tRet (tCB (rTupS K) (tCons (tVar 2) (tNil)))))
abbrev s__law_lift : Stmt := topS 59
abbrev n__law_lift : List Str := ["_law_term", "_law_count", "_law_depths_here", "_law_nodes", "_law_k"]
theorem sc__law_lift : FnScope n__law_lift ["_law_term", "_law_count"] (defScope s__law_lift) := ⟨rfl, rfl, rfl, by decide +kernel, rfl, by decide +kernel, by decide +kernel⟩
-- calls: ['_law_depths']; level 2; slots: 0:_law_term 1:_law_count 2:_law_depths_here 3:_law_nodes 4:_law_k
def t__law_lift (K : PySem.W.Frag) (C : Addr) : TS := tSeq (tAsg (tCall (sp__law_depths K C) [] E0 (tCons (tVar 0) (tNil))) (gName 2)) (tSeq (tAsg (tLst (tNil)) (gName 3)) (tSeq (tFor (iRng1 (tCons (tCB (rLenS K) (tCons (tVar 0) (tNil))) (tNil))) (gName 4) (tIfS (tAnd (tTest (tOp (rNe) (tOp (rIx K) (tVar 0) (tVar 4)) (tC (.str "app")))) (tAnd (tTest (tOp (rNe) (tOp (rIx K) (tVar 0) (tVar 4)) (tC (.str "lam")))) (tTest (tOp (rGeI) (tOp (rIx K) (tVar 0) (tVar 4)) (tOp (rIx K) (tVar 2) (tVar 4)))))) (tDrop (tBM K "list" (rAppend) (tVar 3) (tCons (tOp (rAddI) (tOp (rIx K) (tVar 0) (tVar 4)) (tVar 1)) (tNil)))) (tDrop (tBM K "list" (rAppend) (tVar 3) (tCons (tOp (rIx K) (tVar 0) (tVar 4)) (tNil)))))) (tRet (tCB (rTupS K) (tCons (tVar 3) (tNil))))))
def outL (c : Nat) (d : D) : D := match d with
  | .tup [x, .int w] => ndL c x w.toNat
  | y => y
def goodZ (d : D) : Prop := ∃ (x : D) (w : Nat), d = .tup [x, .int (w : Int)] ∧ isNode x
theorem goodZ_all (xs : List D) (ws : List Nat) (h : ∀ x ∈ xs, isNode x) : ∀ d ∈ xs.zipWith (fun x y => D.tup [x, y]) (dI ws), goodZ d := by
  induction xs generalizing ws with
  | nil => intro d hd; simp at hd
  | cons x xs ih =>
    cases ws with
    | nil => intro d hd; simp at hd
    | cons w ws =>
      intro d hd
      simp only [dI, List.map_cons, List.zipWith_cons_cons, List.mem_cons] at hd
      rcases hd with rfl | hd
      · exact ⟨x, w, rfl, h x List.mem_cons_self⟩
      · exact ih ws (fun y hy => h y (List.mem_cons_of_mem _ hy)) d hd
theorem outL_map (c : Nat) : ∀ (xs : List D) (ws : List Nat), (xs.zipWith (fun x y => D.tup [x, y]) (dI ws)).map (outL c) = xs.zipWith (ndL c) ws
  | [], ws => by simp
  | x :: xs, [] => by simp
  | x :: xs, w :: ws => by
    have := outL_map c xs ws
    simp only [dI] at this
    simp [dI, outL, this]
theorem c_lifted (K : PySem.W.Frag) (C : Addr) (g : GLift) (hp : size g.t < 1000000) (_ : (aLift g).length = 2) :
    CmD K C (t_lifted K C) (aLift g ++ List.replicate (n_lifted.length - 2) .un) (fun _ => (.non : D) = .tup (enc (lift g.c g.t))) (fun d => d = .tup (enc (lift g.c g.t))) no no := by
  obtain ⟨t, c⟩ := g
  have hl := enc_len t
  have hd := dep_len t 0
  have hp' : size t < 1000000 := hp
  refine q_lst0 ?_
  refine q_forR (it_zipM (e_var rfl) (v_call t (a_consV (e_var rfl) a_nil) hp) (by rw [dI_len, hl, hd])) (fun r S1 => ∃ acc z1 z2, acc ++ r.map (outL c) = enc (lift c t) ∧ (∀ d ∈ r, goodZ d) ∧ S1 = [.im (.tup (enc t)), .im (.int (c : Int)), .ml acc, z1, z2]) no ⟨[], .un, .un, ?_, goodZ_all _ _ (enc_node t), rfl⟩ ?_ ?_ (fun _ h => h.elim)
  · rw [outL_map, ndL_map, lf_lift]; rfl
  · rintro d r S1 ⟨acc, z1, z2, e, hg, rfl⟩
    obtain ⟨x, w, rfl, hx⟩ := hg d List.mem_cons_self
    have hacc : acc.length < 16777216 := by
      have := congrArg List.length e
      rw [List.length_append, enc_len, size_lift] at this
      omega
    refine ⟨_, tg_two, ?_⟩
    have hr : ∀ d ∈ r, goodZ d := fun d hd => hg d (List.mem_cons_of_mem _ hd)
    rcases hx with ⟨n, rfl⟩ | rfl | rfl
    · refine c_if (t_andV (t_bV (v_isiI (e_var rfl))) fun _ => t_testV (v_op (e_var rfl) (e_var rfl) o_ge)) (fun hb => ?_) (fun hb => ?_)
      · refine c_app rfl (v_op (e_var rfl) (e_var rfl) o_add) hacc ⟨_, .im (.int (n : Int)), .im (.int (w : Int)), ?_, hr, rfl⟩
        have h1 : (w : Int) ≤ (n : Int) := by simpa using hb.symm
        rw [← e]
        simp only [List.map_cons, outL, ndL, Int.toNat_natCast, List.append_assoc, List.cons_append, List.nil_append]
        rw [if_pos h1]
      · refine c_app rfl (e_var rfl) hacc ⟨_, .im (.int (n : Int)), .im (.int (w : Int)), ?_, hr, rfl⟩
        have h1 : ¬ (w : Int) ≤ (n : Int) := by simpa using hb.symm
        rw [← e]
        simp only [List.map_cons, outL, ndL, Int.toNat_natCast, List.append_assoc, List.cons_append, List.nil_append]
        rw [if_neg h1]
    · refine c_no (t_andV (a := false) (b := false) (t_bV (v_isiS (e_var rfl))) fun e => by cases e) (c_app rfl (e_var rfl) hacc ⟨_, .im (.str "lam"), .im (.int (w : Int)), ?_, hr, rfl⟩)
      rw [← e]
      simp [outL, ndL]
    · refine c_no (t_andV (a := false) (b := false) (t_bV (v_isiS (e_var rfl))) fun e => by cases e) (c_app rfl (e_var rfl) hacc ⟨_, .im (.str "app"), .im (.int (w : Int)), ?_, hr, rfl⟩)
      rw [← e]
      simp [outL, ndL]
  · rintro S1 ⟨acc, z1, z2, e, hg, rfl⟩
    simp only [List.map_nil, List.append_nil] at e
    subst e
    exact c_freeze (j := 2) rfl (c_retV (v_cb (a_consV (e_var rfl) a_nil) k_tupL (ds := [.lst (enc (lift c t))])) rfl)
theorem ok_lifted {P : Program} {w : World} {K : PySem.W.Frag} {mg : Str → Option Value} {base : Heap} {C aI f : Addr} {fd : FuncData} (X : Tx K mg C aI) (F : Fun K "lifted" "lifted" s_lifted f fd) (hm : mg "lifted" = some (.ref f)) (D_depths : Df P w K mg base 1 "depths" ["nodes"] (sp_depths K C)) :
    Df P w K mg base 2 "lifted" ["nodes", "count"] (sp_lifted K C) :=
  df_mk hm F.kp (F.binds fun _ _ _ _ _ _ us hl => match us, hl with | [_, _], _ => rfl) (F.ok sc_lifted spG_len fun cdv A outer s H vs Q E hr h => ⟨t_lifted K C, pss_cons (ps_set (i := 2) sc_lifted.nd rfl (by first | exact Or.inl rfl | exact Or.inr rfl) (pe_lst (pa_nil))) (pss_cons (ps_for PassesOwn.never rfl (pi_zipM (by rfl) X.zip (pa_cons (pv 0) (pa_cons (pe_own D_depths (hr.mono (by decide)) (by rfl) (pa_cons (pv 0) (pa_nil))) (pa_nil)))) (pg_tup rfl (pgs_cons (pg_name (i := 3) sc_lifted.nd rfl (by first | exact Or.inl rfl | exact Or.inr rfl)) (pgs_cons (pg_name (i := 4) sc_lifted.nd rfl (by first | exact Or.inl rfl | exact Or.inr rfl)) (pgs_nil)))) (pss_one (ps_if (PW.pt (pw_and (pt_val (pe_callB call_isi (by rfl) X.isinstance (by decide +kernel) (pa_cons (pv 3) (pa_cons (pe_bltn (v := .ty "int") (by rfl) X.int (by decide +kernel) rfl) pa_nil)))) (pw_and1 (pt_cmpR (op_ge) (pv 3) (pv 4) (nomark _))))) (pss_one (ps_expr (pe_bm PySem.F.plainAttrs_list PySem.F.slot_list_append PySem.F.type_list_append mt_append (pv 2) (pa_cons (pe_op op_add (pv 3) (pv 1)) (pa_nil))))) (pss_one (ps_expr (pe_bm PySem.F.plainAttrs_list PySem.F.slot_list_append PySem.F.type_list_append mt_append (pv 2) (pa_cons (pv 3) (pa_nil)))))))) (pss_one (ps_ret (pe_callTy call_tuple_of (by rfl) X.tuple (by decide +kernel) (pa_cons (pv 2) (pa_nil)))))), run_of (E := E) (c_lifted K C) h⟩)
def sp_lift (K : PySem.W.Frag) (C : Addr) : Sp := spG K C 2 aLift (fun g => size g.t ≤ 1000 ∧ vle 1000000 (lift g.c g.t)) (fun g d => d = .tup (enc (lift g.c g.t)))
abbrev s_lift : Stmt := topS 13
abbrev n_lift : List Str := ["term", "count"]
theorem sc_lift : FnScope n_lift ["term", "count"] (defScope s_lift) := ⟨rfl, rfl, rfl, by decide +kernel, rfl, by decide +kernel, by decide +kernel⟩
-- calls: ['checked', 'lifted']; level 3; slots: 0:term 1:count
def t_lift (K : PySem.W.Frag) (C : Addr) : TS := tRet (tCall (sp_checked K C) [] E0 (tCons (tCall (sp_lifted K C) [] E0 (tCons (tVar 0) (tCons (tVar 1) (tNil)))) (tNil)))
theorem c_lift (K : PySem.W.Frag) (C : Addr) (g : GLift) (hp : size g.t ≤ 1000 ∧ vle 1000000 (lift g.c g.t)) (_ : (aLift g).length = 2) :
    CmD K C (t_lift K C) (aLift g ++ List.replicate (n_lift.length - 2) .un) (fun _ => (.non : D) = .tup (enc (lift g.c g.t))) (fun d => d = .tup (enc (lift g.c g.t))) no no := by
  obtain ⟨t, c⟩ := g
  have hp' : size t ≤ 1000 ∧ vle 1000000 (lift c t) := hp
  exact c_retV (v_call (lift c t) (a_consV (v_call (⟨t, c⟩ : GLift) (a_consV (e_var rfl) (a_consV (e_var rfl) a_nil)) (show size t < 1000000 by omega)) a_nil) ⟨by rw [size_lift]; exact hp'.1, hp'.2⟩) rfl
theorem ok_lift {P : Program} {w : World} {K : PySem.W.Frag} {mg : Str → Option Value} {base : Heap} {C aI f : Addr} {fd : FuncData} (X : Tx K mg C aI) (F : Fun K "lift" "lift" s_lift f fd) (hm : mg "lift" = some (.ref f)) (D_checked : Df P w K mg base 1 "checked" ["nodes"] (sp_checked K C)) (D_lifted : Df P w K mg base 2 "lifted" ["nodes", "count"] (sp_lifted K C)) :
    Df P w K mg base 3 "lift" ["term", "count"] (sp_lift K C) :=
  df_mk hm F.kp (F.binds fun _ _ _ _ _ _ us hl => match us, hl with | [_, _], _ => rfl) (F.ok sc_lift spG_len fun cdv A outer s H vs Q E hr h => ⟨t_lift K C, pss_one (ps_ret (pe_own D_checked (hr.mono (by decide)) (by rfl) (pa_cons (pe_own D_lifted (hr.mono (by decide)) (by rfl) (pa_cons (pv 0) (pa_cons (pv 1) (pa_nil)))) (pa_nil)))), run_of (E := E) (c_lift K C) h⟩)
/-! by index -/
theorem getN {xs : List D} {n : Int} {k : Nat} {x : D} (h : xs[k]? = some x) (e : n = (k : Int)) : atI xs n = some x := by rw [e]; exact atI_pos h
theorem rng_at {n i : Nat} {d : D} (h : (rngD 0 n)[i]? = some d) : i < n ∧ d = .int (i : Int) := by
  obtain ⟨h1, h2⟩ := rngD_get h
  exact ⟨h1, by rw [h2]; simp⟩
theorem enc_at {t : Tm} {i : Nat} (h : i < size t) : ∃ x w, (enc t)[i]? = some x ∧ isNode x ∧ (dep 0 t)[i]? = some w ∧ (dI (dep 0 t))[i]? = some (.int (w : Int)) := by
  have h1 : i < (enc t).length := by rw [enc_len]; exact h
  have h2 : i < (dep 0 t).length := by rw [dep_len]; exact h
  refine ⟨(enc t)[i], (dep 0 t)[i], List.getElem?_eq_getElem h1, enc_node t _ (List.getElem_mem h1), List.getElem?_eq_getElem h2, ?_⟩
  unfold dI
  rw [List.getElem?_map, List.getElem?_eq_getElem h2]
  rfl
theorem take_zip {α β γ : Type} (f : α → β → γ) {xs : List α} {ys : List β} {i : Nat} {x : α} {y : β} (h1 : xs[i]? = some x) (h2 : ys[i]? = some y) : (xs.zipWith f ys).take (i + 1) = (xs.zipWith f ys).take i ++ [f x y] := by
  rw [List.take_add_one, List.getElem?_zipWith, h1, h2]
  rfl
theorem zip_len {α β γ : Type} (f : α → β → γ) (xs : List α) (ys : List β) (h : xs.length = ys.length) : (xs.zipWith f ys).length = xs.length := by rw [List.length_zipWith, h, Nat.min_self]
theorem c__law_lift (K : PySem.W.Frag) (C : Addr) (g : GLift) (hp : size g.t < 1000000) (_ : (aLift g).length = 2) :
    CmD K C (t__law_lift K C) (aLift g ++ List.replicate (n__law_lift.length - 2) .un) (fun _ => (.non : D) = .tup (enc (lift g.c g.t))) (fun d => d = .tup (enc (lift g.c g.t))) no no := by
  obtain ⟨t, c⟩ := g
  have hl := enc_len t
  have hd := dep_len t 0
  have hp' : size t < 1000000 := hp
  have hz : ((enc t).zipWith (ndL c) (dep 0 t)).length = size t := by rw [zip_len _ _ _ (by rw [hl, hd]), hl]
  refine q_setE (v_call t (a_consV (e_var rfl) a_nil) hp) ?_
  rintro d rfl
  refine q_lst0 ?_
  refine q_for (it_rng1 (v_cb (a_consV (e_var rfl) a_nil) k_lenT (ds := [.tup (enc t)])) (by rw [hl]; omega) (by rw [hl]; omega))
    (fun i S1 => ∃ z, S1 = [.im (.tup (enc t)), .im (.int (c : Int)), .im (.lst (dI (dep 0 t))), .ml (((enc t).zipWith (ndL c) (dep 0 t)).take i), z]) no ⟨.un, by simp <;> rfl⟩ ?_ ?_ (fun _ h => h.elim)
  · rintro i d S1 hi ⟨z, rfl⟩
    obtain ⟨hi1, rfl⟩ := rng_at hi
    rw [hl, Int.toNat_natCast] at hi1
    obtain ⟨x, w, e1, hx, e2, e3⟩ := enc_at hi1
    have hacc : (((enc t).zipWith (ndL c) (dep 0 t)).take i).length < 16777216 := by rw [List.length_take, hz]; omega
    have tz := take_zip (ndL c) e1 e2
    have gx : atI (enc t) ((i : Nat) : Int) = some x := getN e1 rfl
    have gw : atI (dI (dep 0 t)) ((i : Nat) : Int) = some (.int (w : Int)) := getN e3 rfl
    refine ⟨_, tg_name, ?_⟩
    rcases hx with ⟨n, rfl⟩ | rfl | rfl
    · have vx : VlD K C (tOp (rIx K) (tVar 0) (tVar 4)) [.im (.tup (enc t)), .im (.int (c : Int)), .im (.lst (dI (dep 0 t))), .ml (((enc t).zipWith (ndL c) (dep 0 t)).take i), .im (.int (i : Int))] (.int (n : Int)) := v_op (e_var rfl) (e_var rfl) (o_ixT gx)
      refine c_if (t_andV (t_testV (v_op vx e_str o_neIS)) fun _ => t_andV (t_testV (v_op vx e_str o_neIS)) fun _ => t_testV (v_op vx (v_op (e_var rfl) (e_var rfl) (o_ixL gw)) o_ge)) (fun hb => ?_) (fun hb => ?_)
      · have h1 : (w : Int) ≤ (n : Int) := by simpa using hb.symm
        refine c_app rfl (v_op vx (e_var rfl) o_add) hacc ⟨.im (.int (i : Int)), ?_⟩
        rw [tz]
        simp only [ndL]
        rw [if_pos h1]
        rfl
      · have h1 : ¬ (w : Int) ≤ (n : Int) := by simpa using hb.symm
        refine c_app rfl vx hacc ⟨.im (.int (i : Int)), ?_⟩
        rw [tz]
        simp only [ndL]
        rw [if_neg h1]
        rfl
    · have vx : VlD K C (tOp (rIx K) (tVar 0) (tVar 4)) [.im (.tup (enc t)), .im (.int (c : Int)), .im (.lst (dI (dep 0 t))), .ml (((enc t).zipWith (ndL c) (dep 0 t)).take i), .im (.int (i : Int))] (.str "lam") := v_op (e_var rfl) (e_var rfl) (o_ixT gx)
      refine c_no (t_andV (a := true) (b := false) (t_testV (v_op vx e_str ne_la)) fun _ => t_andV (a := false) (b := false) (t_testV (v_op vx e_str ne_ll)) fun e => by cases e) (c_app rfl vx hacc ⟨.im (.int (i : Int)), ?_⟩)
      rw [tz]; rfl
    · have vx : VlD K C (tOp (rIx K) (tVar 0) (tVar 4)) [.im (.tup (enc t)), .im (.int (c : Int)), .im (.lst (dI (dep 0 t))), .ml (((enc t).zipWith (ndL c) (dep 0 t)).take i), .im (.int (i : Int))] (.str "app") := v_op (e_var rfl) (e_var rfl) (o_ixT gx)
      refine c_no (t_andV (a := false) (b := false) (t_testV (v_op vx e_str ne_aa)) fun e => by cases e) (c_app rfl vx hacc ⟨.im (.int (i : Int)), ?_⟩)
      rw [tz]; rfl
  · rintro S1 ⟨z, rfl⟩
    have e : ((enc t).zipWith (ndL c) (dep 0 t)).take (rngD 0 ((enc t).length : Int).toNat).length = enc (lift c t) := by
      rw [rngD_len, Int.toNat_natCast, List.take_of_length_le (by rw [hz, hl]; omega), ndL_map, lf_lift]
    rw [e]
    exact c_freeze (j := 3) rfl (c_retV (v_cb (a_consV (e_var rfl) a_nil) k_tupL (ds := [.lst (enc (lift c t))])) rfl)
theorem ok__law_lift {P : Program} {w : World} {K : PySem.W.Frag} {mg : Str → Option Value} {base : Heap} {C aI f : Addr} {fd : FuncData} (X : Tx K mg C aI) (F : Fun K "_law_lift" "_law_lift" s__law_lift f fd) (hm : mg "_law_lift" = some (.ref f)) (D__law_depths : Df P w K mg base 1 "_law_depths" ["_law_term"] (sp__law_depths K C)) :
    Df P w K mg base 2 "_law_lift" ["_law_term", "_law_count"] (sp__law_lift K C) :=
  df_mk hm F.kp (F.binds fun _ _ _ _ _ _ us hl => match us, hl with | [_, _], _ => rfl) (F.ok sc__law_lift spG_len fun cdv A outer s H vs Q E hr h => ⟨t__law_lift K C, pss_cons (ps_set (i := 2) sc__law_lift.nd rfl (by first | exact Or.inl rfl | exact Or.inr rfl) (pe_own D__law_depths (hr.mono (by decide)) (by rfl) (pa_cons (pv 0) (pa_nil)))) (pss_cons (ps_set (i := 3) sc__law_lift.nd rfl (by first | exact Or.inl rfl | exact Or.inr rfl) (pe_lst (pa_nil))) (pss_cons (ps_for PassesOwn.never rfl (pi_range1 (by rfl) X.range (pa_cons (pe_callB call_len_seq (by rfl) X.len (by decide +kernel) (pa_cons (pv 0) (pa_nil))) (pa_nil))) (pg_name (i := 4) sc__law_lift.nd rfl (by first | exact Or.inl rfl | exact Or.inr rfl)) (pss_one (ps_if (PW.pt (pw_and (pt_cmpR (op_ne) (pe_ix ix_seq (pv 0) (pv 4) (fun _ _ => rfl)) (pe_str) (nomark _)) (pw_and (pt_cmpR (op_ne) (pe_ix ix_seq (pv 0) (pv 4) (fun _ _ => rfl)) (pe_str) (nomark _)) (pw_and1 (pt_cmpR (op_ge) (pe_ix ix_seq (pv 0) (pv 4) (fun _ _ => rfl)) (pe_ix ix_seq (pv 2) (pv 4) (fun _ _ => rfl)) (nomark _)))))) (pss_one (ps_expr (pe_bm PySem.F.plainAttrs_list PySem.F.slot_list_append PySem.F.type_list_append mt_append (pv 3) (pa_cons (pe_op op_add (pe_ix ix_seq (pv 0) (pv 4) (fun _ _ => rfl)) (pv 1)) (pa_nil))))) (pss_one (ps_expr (pe_bm PySem.F.plainAttrs_list PySem.F.slot_list_append PySem.F.type_list_append mt_append (pv 3) (pa_cons (pe_ix ix_seq (pv 0) (pv 4) (fun _ _ => rfl)) (pa_nil)))))))) (pss_one (ps_ret (pe_callTy call_tuple_of (by rfl) X.tuple (by decide +kernel) (pa_cons (pv 3) (pa_nil))))))), run_of (E := E) (c__law_lift K C) h⟩)
end Wk
end
section
set_option Elab.async false
set_option autoImplicit false
set_option linter.all false
set_option maxRecDepth 100000
set_option maxHeartbeats 4000000
/-! Plain facts: parts by index, redexes, the first step, needless abstractions. -/
namespace Wk
open PySem L2 Dl Lam
/-! ### the first step -/
def step1 : Tm → Option Tm
  | .var _ => none
  | .lam b => (step1 b).map Tm.lam
  | .app (.lam b) v => some (inst b v)
  | .app f x => match step1 f with
    | some g => some (.app g x)
    | none => (step1 x).map (Tm.app f)
theorem step1_app {f x : Tm} (h : isLam f = false) : step1 (.app f x) = match step1 f with
    | some g => some (.app g x)
    | none => (step1 x).map (Tm.app f) := by
  cases f with
  | lam b => cases h
  | var n => rfl
  | app a b => rfl
theorem step1_none : ∀ {t : Tm}, nf t = true → step1 t = none
  | .var n, _ => rfl
  | .lam b, h => by simp only [step1]; rw [step1_none (t := b) h]; rfl
  | .app f x, h => by
    simp only [nf, Bool.and_eq_true, Bool.not_eq_true'] at h
    rw [step1_app h.1.1, step1_none h.1.2, step1_none h.2]
    rfl
theorem step1_beta : ∀ {t u : Tm}, step1 t = some u → Beta t u
  | .var n, u, h => by cases h
  | .lam b, u, h => by
    simp only [step1] at h
    cases e : step1 b with
    | none => rw [e] at h; cases h
    | some c =>
      rw [e] at h
      cases h
      exact .lam (step1_beta e)
  | .app (.lam b) v, u, h => by
    simp only [step1, Option.some.injEq] at h
    subst h
    exact .red b v
  | .app (.var n) x, u, h => by
    rw [step1_app rfl] at h
    simp only [step1] at h
    cases e : step1 x with
    | none => rw [e] at h; cases h
    | some y =>
      rw [e] at h
      cases h
      exact .appr (step1_beta e)
  | .app (.app a b) x, u, h => by
    rw [step1_app rfl] at h
    cases e1 : step1 (.app a b) with
    | some g =>
      rw [e1] at h
      cases h
      exact .appl (step1_beta e1)
    | none =>
      rw [e1] at h
      cases e : step1 x with
      | none => rw [e] at h; cases h
      | some y =>
        rw [e] at h
        cases h
        exact .appr (step1_beta e)
/-- the redexes' indexes -/
def rd : Nat → Tm → List Nat
  | _, .var _ => []
  | i, .lam b => rd (i + 1) b
  | i, .app f x => (if isLam f then [i] else []) ++ (rd (i + 1) f ++ rd (i + 1 + size f) x)
theorem rd_nil : ∀ {t : Tm} {i : Nat}, rd i t = [] → nf t = true
  | .var n, i, _ => rfl
  | .lam b, i, h => rd_nil (t := b) h
  | .app f x, i, h => by
    simp only [rd, List.append_eq_nil_iff] at h
    obtain ⟨h1, h2, h3⟩ := h
    have e : isLam f = false := by
      cases e : isLam f with
      | false => rfl
      | true => rw [e] at h1; simp at h1
    simp only [nf, e, rd_nil h2, rd_nil h3]
    rfl
theorem rd_of_nf : ∀ {t : Tm} {i : Nat}, nf t = true → rd i t = []
  | .var n, i, _ => rfl
  | .lam b, i, h => rd_of_nf (t := b) h
  | .app f x, i, h => by
    simp only [nf, Bool.and_eq_true, Bool.not_eq_true'] at h
    simp only [rd, h.1.1, rd_of_nf h.1.2, rd_of_nf h.2]
    rfl
theorem rd_first : ∀ {t : Tm} {i k : Nat} {r : List Nat}, rd i t = k :: r → ∃ a b v c u, enc t = a ++ enc (.app (.lam b) v) ++ c ∧ k = i + a.length ∧ step1 t = some u ∧ enc u = a ++ enc (inst b v) ++ c
  | .var n, i, k, r, h => by cases h
  | .lam b, i, k, r, h => by
    obtain ⟨a, d, v, c, u, h1, h2, h3, h4⟩ := rd_first (t := b) h
    exact ⟨.str "lam" :: a, d, v, c, .lam u, by simp [enc, h1], by simp; omega, by simp only [step1, h3]; rfl, by simp [enc, h4]⟩
  | .app f x, i, k, r, h => by
    simp only [rd] at h
    cases e : isLam f with
    | true =>
      cases f with
      | var n => cases e
      | app a b => cases e
      | lam b =>
        rw [e] at h
        simp only [if_true, List.cons_append, List.nil_append, List.cons.injEq] at h
        exact ⟨[], b, x, [], inst b x, by simp, by simp [h.1], rfl, by simp⟩
    | false =>
      rw [e] at h
      simp only [Bool.false_eq_true, if_false, List.nil_append] at h
      cases e1 : rd (i + 1) f with
      | cons k' r' =>
        rw [e1] at h
        simp only [List.cons_append, List.cons.injEq] at h
        obtain ⟨a, d, v, c, u, h1, h2, h3, h4⟩ := rd_first e1
        refine ⟨.str "app" :: a, d, v, c ++ enc x, .app u x, ?_, by simp; omega, by rw [step1_app e, h3], ?_⟩
        · simp [enc, h1]
        · simp [enc, h4]
      | nil =>
        rw [e1, List.nil_append] at h
        obtain ⟨a, d, v, c, u, h1, h2, h3, h4⟩ := rd_first h
        refine ⟨.str "app" :: (enc f ++ a), d, v, c, .app f u, ?_, ?_, ?_, ?_⟩
        · simp [enc, h1]
        · simp [enc_len]; omega
        · rw [step1_app e, step1_none (rd_nil e1), h3]; rfl
        · simp [enc, h4]
/-! the same by a look at each index -/
def isS (s : Str) (x : Option D) : Bool := match x with
  | some (.str y) => decide (y = s)
  | _ => false
def rdAt (xs : List D) (k : Nat) : Bool := isS "app" xs[k]? && isS "lam" xs[k + 1]?
theorem enc_head (t : Tm) (r : List D) : isS "lam" (enc t ++ r)[0]? = isLam t := by
  cases t with
  | var n => rfl
  | lam b => simp [enc, isS, isLam]
  | app f x => simp only [enc, List.cons_append, List.getElem?_cons_zero, isS, isLam]; exact str_ne2
theorem rdAt_rd : ∀ (t : Tm) (p q : List D), (List.range' p.length (size t)).filter (rdAt (p ++ enc t ++ q)) = rd p.length t
  | .var n, p, q => by
    have : rdAt (p ++ enc (.var n) ++ q) p.length = false := by
      unfold rdAt
      rw [List.append_assoc, List.getElem?_append_right (Nat.le_refl _)]
      simp [enc, isS]
    show List.filter (rdAt (p ++ enc (.var n) ++ q)) [p.length] = []
    rw [List.filter_cons, this]
    rfl
  | .lam b, p, q => by
    have h := rdAt_rd b (p ++ [.str "lam"]) q
    have e : (p ++ [D.str "lam"]) ++ enc b ++ q = p ++ enc (.lam b) ++ q := by simp [enc]
    rw [e] at h
    have h0 : rdAt (p ++ enc (.lam b) ++ q) p.length = false := by
      unfold rdAt
      rw [List.append_assoc, List.getElem?_append_right (Nat.le_refl _)]
      simp only [Nat.sub_self, enc, List.cons_append, List.getElem?_cons_zero, isS]
      rw [str_ne1]
      rfl
    simp only [size, List.range'_succ, List.filter_cons, h0, Bool.false_eq_true, if_false, rd]
    rw [List.length_append, List.length_singleton] at h
    exact h
  | .app f x, p, q => by
    have h1 := rdAt_rd f (p ++ [.str "app"]) (enc x ++ q)
    have h2 := rdAt_rd x (p ++ .str "app" :: enc f) q
    have e1 : (p ++ [D.str "app"]) ++ enc f ++ (enc x ++ q) = p ++ enc (.app f x) ++ q := by simp [enc]
    have e2 : (p ++ D.str "app" :: enc f) ++ enc x ++ q = p ++ enc (.app f x) ++ q := by simp [enc]
    rw [e1] at h1
    rw [e2] at h2
    have g1 : (p ++ enc (.app f x) ++ q)[p.length]? = some (.str "app") := by
      rw [List.append_assoc, List.getElem?_append_right (Nat.le_refl _)]
      simp [enc]
    have g2 : (p ++ enc (.app f x) ++ q)[p.length + 1]? = (enc f ++ (enc x ++ q))[0]? := by
      rw [List.append_assoc, List.getElem?_append_right (Nat.le_succ _)]
      simp [enc]
    have h0 : rdAt (p ++ enc (.app f x) ++ q) p.length = isLam f := by
      unfold rdAt
      rw [g1, g2, enc_head]
      show (decide (("app" : Str) = "app") && isLam f) = isLam f
      rw [str_eq2]
      rfl
    rw [List.length_append, List.length_singleton] at h1
    rw [List.length_append, List.length_cons, enc_len] at h2
    simp only [size, List.range'_succ, List.filter_cons, h0, rd]
    have e3 : List.range' (p.length + 1) (size f + size x) = List.range' (p.length + 1) (size f) ++ List.range' (p.length + 1 + size f) (size x) := by
      rw [List.range'_append_1]
    rw [e3, List.filter_append, h1]
    have e4 : p.length + (size f + 1) = p.length + 1 + size f := by omega
    rw [e4] at h2
    rw [h2]
    cases isLam f <;> rfl
theorem enc_last : ∀ (t : Tm), ∃ (a : List D) (n : Nat), enc t = a ++ [.int (n : Int)]
  | .var n => ⟨[], n, rfl⟩
  | .lam b => by
    obtain ⟨a, n, h⟩ := enc_last b
    exact ⟨.str "lam" :: a, n, by simp only [enc]; rw [h]; rfl⟩
  | .app f x => by
    obtain ⟨a, n, h⟩ := enc_last x
    exact ⟨.str "app" :: (enc f ++ a), n, by simp only [enc]; rw [h]; simp⟩
theorem rd_range (t : Tm) : (List.range (size t - 1)).filter (rdAt (enc t)) = rd 0 t := by
  have h := rdAt_rd t [] []
  simp only [List.nil_append, List.append_nil, List.length_nil] at h
  rw [← h, ← List.range_eq_range']
  obtain ⟨k, hk⟩ : ∃ k, size t = k + 1 := ⟨size t - 1, by have := size_pos t; omega⟩
  rw [hk, Nat.add_sub_cancel, List.range_succ, List.filter_append]
  have : rdAt (enc t) k = false := by
    obtain ⟨a, n, e⟩ := enc_last t
    have hl : a.length = k := by
      have := congrArg List.length e
      rw [enc_len, List.length_append, List.length_singleton] at this
      omega
    unfold rdAt
    rw [e, ← hl]
    simp [isS]
  simp [this]
/-! ### parts by index -/
def subAt : Tm → Nat → Option Tm
  | t, 0 => some t
  | .var _, _ + 1 => none
  | .lam b, p + 1 => subAt b p
  | .app f x, p + 1 => if p < size f then subAt f p else subAt x (p - size f)
def repl : Tm → Nat → Tm → Tm
  | _, 0, s => s
  | .var n, _ + 1, _ => .var n
  | .lam b, p + 1, s => .lam (repl b p s)
  | .app f x, p + 1, s => if p < size f then .app (repl f p s) x else .app f (repl x (p - size f) s)
theorem subAt_some : ∀ {t : Tm} {p : Nat}, p < size t → ∃ s, subAt t p = some s
  | t, 0, _ => ⟨t, by cases t <;> rfl⟩
  | .var n, p + 1, h => by simp only [size] at h; omega
  | .lam b, p + 1, h => by
    simp only [size] at h
    exact subAt_some (t := b) (p := p) (by omega)
  | .app f x, p + 1, h => by
    simp only [size] at h
    simp only [subAt]
    by_cases hp : p < size f
    · rw [if_pos hp]; exact subAt_some hp
    · rw [if_neg hp]; exact subAt_some (by omega)
/-- a part stands between what is ahead and what is behind, and may be replaced there -/
theorem subAt_enc : ∀ {t : Tm} {p : Nat} {s : Tm}, subAt t p = some s → ∃ a c, enc t = a ++ enc s ++ c ∧ a.length = p ∧ ∀ s', enc (repl t p s') = a ++ enc s' ++ c
  | t, 0, s, h => by
    have e : t = s := by cases t <;> simpa [subAt] using h
    subst e
    exact ⟨[], [], by simp, rfl, fun s' => by cases t <;> simp [repl]⟩
  | .var n, p + 1, s, h => by simp [subAt] at h
  | .lam b, p + 1, s, h => by
    obtain ⟨a, c, h1, h2, h3⟩ := subAt_enc (t := b) (p := p) (s := s) h
    exact ⟨.str "lam" :: a, c, by simp only [enc]; rw [h1]; simp, by simp [h2], fun s' => by simp only [repl, enc]; rw [h3]; simp⟩
  | .app f x, p + 1, s, h => by
    simp only [subAt] at h
    by_cases hp : p < size f
    · rw [if_pos hp] at h
      obtain ⟨a, c, h1, h2, h3⟩ := subAt_enc h
      exact ⟨.str "app" :: a, c ++ enc x, by simp only [enc]; rw [h1]; simp, by simp [h2], fun s' => by simp only [repl]; rw [if_pos hp]; simp only [enc]; rw [h3]; simp⟩
    · rw [if_neg hp] at h
      obtain ⟨a, c, h1, h2, h3⟩ := subAt_enc h
      exact ⟨.str "app" :: (enc f ++ a), c, by simp only [enc]; rw [h1]; simp, by simp [enc_len, h2]; omega, fun s' => by simp only [repl]; rw [if_neg hp]; simp only [enc]; rw [h3]; simp⟩
theorem repl_eta : ∀ {t : Tm} {p : Nat} {s u : Tm}, subAt t p = some s → Eta s u → Eta t (repl t p u)
  | t, 0, s, u, h, e => by
    have q : t = s := by cases t <;> simpa [subAt] using h
    subst q
    cases t <;> exact e
  | .var n, p + 1, s, u, h, e => by simp [subAt] at h
  | .lam b, p + 1, s, u, h, e => .lam (repl_eta (t := b) (p := p) h e)
  | .app f x, p + 1, s, u, h, e => by
    simp only [subAt] at h
    simp only [repl]
    by_cases hp : p < size f
    · rw [if_pos hp] at h ⊢
      exact .app (repl_eta h e) (.refl x)
    · rw [if_neg hp] at h ⊢
      exact .app (.refl f) (repl_eta h e)
theorem size_repl {t : Tm} {p : Nat} {s u : Tm} (h : subAt t p = some s) : size (repl t p u) + size s = size t + size u := by
  obtain ⟨a, c, h1, h2, h3⟩ := subAt_enc h
  have e1 := congrArg List.length h1
  have e2 := congrArg List.length (h3 u)
  simp only [List.length_append, enc_len] at e1 e2
  omega
/-- a part is needless -/
def need1 : Tm → Bool
  | .lam b => need0 b
  | _ => false
theorem en_part : ∀ {t : Tm} {p : Nat} {s : Tm}, en t = true → subAt t p = some s → en s = true
  | t, 0, s, h, e => by
    have q : t = s := by cases t <;> simpa [subAt] using e
    subst q
    exact h
  | .var n, p + 1, s, h, e => by simp [subAt] at e
  | .lam b, p + 1, s, h, e => by
    simp only [en, Bool.and_eq_true] at h
    exact en_part (t := b) (p := p) h.2 e
  | .app f x, p + 1, s, h, e => by
    simp only [en, Bool.and_eq_true] at h
    simp only [subAt] at e
    by_cases hp : p < size f
    · rw [if_pos hp] at e; exact en_part h.1 e
    · rw [if_neg hp] at e; exact en_part h.2 e
theorem nf_part : ∀ {t : Tm} {p : Nat} {s : Tm}, nf t = true → subAt t p = some s → nf s = true
  | t, 0, s, h, e => by
    have q : t = s := by cases t <;> simpa [subAt] using e
    subst q
    exact h
  | .var n, p + 1, s, h, e => by simp [subAt] at e
  | .lam b, p + 1, s, h, e => nf_part (t := b) (p := p) h e
  | .app f x, p + 1, s, h, e => by
    simp only [nf, Bool.and_eq_true] at h
    simp only [subAt] at e
    by_cases hp : p < size f
    · rw [if_pos hp] at e; exact nf_part h.1.2 e
    · rw [if_neg hp] at e; exact nf_part h.2 e
theorem en_need1 {t : Tm} (h : en t = true) : need1 t = false := by
  cases t with
  | var n => rfl
  | app f x => rfl
  | lam b => simp only [en, Bool.and_eq_true, Bool.not_eq_true'] at h; exact h.1
theorem en_all : ∀ {t : Tm}, (∀ p s, subAt t p = some s → need1 s = false) → en t = true
  | .var n, _ => rfl
  | .lam b, h => by
    simp only [en, Bool.and_eq_true, Bool.not_eq_true']
    exact ⟨h 0 (.lam b) rfl, en_all fun p s e => h (p + 1) s e⟩
  | .app f x, h => by
    simp only [en, Bool.and_eq_true]
    refine ⟨en_all fun p s e => ?_, en_all fun p s e => h (p + size f + 1) s ?_⟩
    · by_cases hp : p < size f
      · exact h (p + 1) s (by simp only [subAt]; rw [if_pos hp]; exact e)
      · obtain ⟨a, c, h1, h2, _⟩ := subAt_enc e
        have := congrArg List.length h1
        simp only [List.length_append, enc_len] at this
        have := size_pos s
        omega
    · simp only [subAt]
      rw [if_neg (by omega), show p + size f - size f = p by omega]
      exact e
theorem need1_size {s : Tm} (h : need1 s = true) : ∃ q, s = .lam (.app q (.var 0)) ∧ occ 0 q = false := by
  cases s with
  | var n => cases h
  | app f x => cases h
  | lam b =>
    cases b with
    | var n => cases h
    | lam c => cases h
    | app q x =>
      cases x with
      | lam c => cases h
      | app a b => cases h
      | var n =>
        cases n with
        | succ n => cases h
        | zero => exact ⟨q, rfl, by simpa [need1, need0] using h⟩
theorem eta_one {q : Tm} (h : occ 0 q = false) : Eta (.lam (.app q (.var 0))) (low 0 q) := by
  have e := Eta.eta (Eta.refl (low 0 q))
  rw [succ_low q h] at e
  exact e
theorem subAt_lt {t s : Tm} {p : Nat} (h : subAt t p = some s) : p + size s ≤ size t := by
  obtain ⟨a, c, h1, h2, _⟩ := subAt_enc h
  have := congrArg List.length h1
  simp only [List.length_append, enc_len] at this
  omega
theorem size_low : ∀ (t : Tm) (d : Nat), size (low d t) = size t
  | .var n, d => by simp only [low]; by_cases h : n > d <;> simp [h, size]
  | .lam b, d => by simp only [low, size]; rw [size_low b]
  | .app f x, d => by simp only [low, size]; rw [size_low f, size_low x]
/-! occurrences, lowering, node by node -/
def ndU (x : D) (w : Nat) : Bool := match x with
  | .int i => decide (i = (w : Int))
  | _ => false
theorem any_zip : ∀ (t : Tm) (d : Nat), ((enc t).zipWith ndU (dep d t)).any id = occ d t
  | .var n, d => by
    simp only [enc, dep, List.zipWith_cons_cons, List.zipWith_nil_left, List.any_cons, List.any_nil, Bool.or_false, ndU, id, occ]
    by_cases h : n = d
    · subst h; simp
    · rw [decide_eq_false (by omega)]; simp [h]
  | .lam b, d => by
    simp only [enc, dep, List.zipWith_cons_cons, List.any_cons, ndU, id, Bool.false_or, occ]
    exact any_zip b (d + 1)
  | .app f x, d => by
    simp only [enc, dep, List.zipWith_cons_cons, List.any_cons, ndU, id, Bool.false_or, occ]
    rw [List.zipWith_append (by rw [enc_len, dep_len]), List.any_append, any_zip f, any_zip x]
def ndW (x : D) (w : Nat) : D := match x with
  | .int i => if i > (w : Int) then .int (i - 1) else .int i
  | y => y
theorem ndW_map : ∀ (t : Tm) (d : Nat), (enc t).zipWith ndW (dep d t) = enc (low d t)
  | .var n, d => by
    simp only [enc, dep, low, List.zipWith_cons_cons, List.zipWith_nil_left]
    by_cases h : n > d
    · rw [if_pos h]
      simp only [enc, ndW]
      rw [if_pos (by omega)]
      congr 2
      omega
    · rw [if_neg h]
      simp only [enc, ndW]
      rw [if_neg (by omega)]
  | .lam b, d => by
    simp only [enc, dep, low, List.zipWith_cons_cons]
    rw [ndW_map b]
    rfl
  | .app f x, d => by
    simp only [enc, dep, low, List.zipWith_cons_cons]
    rw [List.zipWith_append (by rw [enc_len, dep_len]), ndW_map f, ndW_map x]
    rfl
/-! slices -/
theorem cut_mid {ds a b c : List D} {lo hi : Int} (e : ds = a ++ b ++ c) (h1 : lo = (a.length : Int)) (h2 : hi = ((a.length + b.length : Nat) : Int)) : cutD ds (some lo) (some hi) = b := by
  subst h1 h2 e
  unfold cutD
  rw [HT.sIx_nat, HT.sIx_nat]
  have e1 : min a.length (a ++ b ++ c).length = a.length := by simp
  have e2 : min (a.length + b.length) (a ++ b ++ c).length = a.length + b.length := by simp <;> omega
  rw [e1, e2, List.append_assoc, List.drop_left, Nat.add_sub_cancel_left, List.take_left]
theorem cut_pre {ds a c : List D} {hi : Int} (e : ds = a ++ c) (h2 : hi = (a.length : Int)) : cutD ds none (some hi) = a := by
  subst h2 e
  unfold cutD
  rw [HT.sIx_nat, HT.sIx_none]
  have e1 : min a.length (a ++ c).length = a.length := by simp
  rw [e1, List.drop_zero, Nat.sub_zero, List.take_left]
theorem cut_suf {ds a c : List D} {lo : Int} (e : ds = a ++ c) (h1 : lo = (a.length : Int)) : cutD ds (some lo) none = c := by
  subst h1 e
  unfold cutD
  rw [HT.sIx_nat, HT.sIx_none]
  have e1 : min a.length (a ++ c).length = a.length := by simp
  rw [e1, List.drop_left]
  have e2 : (a ++ c).length - a.length = c.length := by simp
  rw [e2, List.take_length]
end Wk
end
section
set_option Elab.async false
set_option autoImplicit false
set_option linter.all false
set_option maxRecDepth 100000
set_option maxHeartbeats 4000000
/-! _law_put, _law_step, _law_redexes, _law_normal, _law_leads. -/
namespace Wk
open PySem L2 Dl Dx Lam
theorem a_is {K : PySem.W.Frag} {C : Addr} {ta : TA} {S : List Sl} {ss ss' : List Sl} (h : AgD K C ta S (fun x => x = ss)) (e : ss = ss') : AgD K C ta S (fun x => x = ss') := by rw [← e]; exact h
structure GPut where
  t : Tm
  v : Tm
abbrev aPut (g : GPut) : List Sl := [.im (.tup (enc g.t)), .im (.tup (enc g.v))]
abbrev pPut (g : GPut) (d : D) : Prop := ∃ ys : List D, d = .tup ys ∧ ys.length ≤ 1101 + size g.v ∧ (ys = enc (inst g.t g.v) ∨ (1100 < ys.length ∧ 1100 < size (inst g.t g.v)))
def sp__law_put (K : PySem.W.Frag) (C : Addr) : Sp := spG K C 2 aPut (fun g => size g.t < 1000000 ∧ size g.v < 1000000) pPut
abbrev s__law_put : Stmt := topS 60
abbrev n__law_put : List Str := ["_law_term", "_law_value", "_law_depths_here", "_law_nodes", "_law_k", "_law_node"]
theorem sc__law_put : FnScope n__law_put ["_law_term", "_law_value"] (defScope s__law_put) := ⟨rfl, rfl, rfl, by decide +kernel, rfl, by decide +kernel, by decide +kernel⟩
-- calls: ['_law_depths', '_law_lift']; level 3; slots: 0:_law_term 1:_law_value 2:_law_depths_here 3:_law_nodes 4:_law_k 5:_law_node
def t__law_put (K : PySem.W.Frag) (C : Addr) : TS := tSeq (tAsg (tCall (sp__law_depths K C) [] E0 (tCons (tVar 0) (tNil))) (gName 2)) (tSeq (tAsg (tTup (tNil)) (gName 3)) (tSeq (tFor (iRng1 (tCons (tCB (rLenS K) (tCons (tVar 0) (tNil))) (tNil))) (gName 4) (tSeq (tAsg (tOp (rIx K) (tVar 0) (tVar 4)) (gName 5)) (tSeq (tIfS (tOr (tTest (tOp (rEq) (tVar 5) (tC (.str "app")))) (tOr (tTest (tOp (rEq) (tVar 5) (tC (.str "lam")))) (tTest (tOp (rLtI) (tVar 5) (tOp (rIx K) (tVar 2) (tVar 4)))))) (tAsg (tOp (rCatA K) (tVar 3) (tTup (tCons (tVar 5) (tNil)))) (gName 3)) (tIfS (tTest (tOp (rEq) (tVar 5) (tOp (rIx K) (tVar 2) (tVar 4)))) (tAsg (tOp (rCatA K) (tVar 3) (tCall (sp__law_lift K C) [] E0 (tCons (tVar 1) (tCons (tOp (rIx K) (tVar 2) (tVar 4)) (tNil))))) (gName 3)) (tAsg (tOp (rCatA K) (tVar 3) (tTup (tCons (tOp (rSubI) (tVar 5) (tC (.int 1))) (tNil)))) (gName 3)))) (tIfS (tTest (tOp (rGtI) (tCB (rLenS K) (tCons (tVar 3) (tNil))) (tC (.int 1100)))) (tBreak) (tNext))))) (tRet (tVar 3))))
theorem ndP_len (v : Tm) (x : D) (w : Nat) : (ndP v x w).length ≤ 1 + size v := by
  unfold ndP
  split
  · split
    · simp
    · split
      · rw [enc_len, size_lift]; omega
      · simp
  · simp
theorem c__law_put (K : PySem.W.Frag) (C : Addr) (g : GPut) (hp : size g.t < 1000000 ∧ size g.v < 1000000) (_ : (aPut g).length = 2) :
    CmD K C (t__law_put K C) (aPut g ++ List.replicate (n__law_put.length - 2) .un) (fun _ => pPut g .non) (pPut g) no no := by
  obtain ⟨t, v⟩ := g
  have hl := enc_len t
  have hd := dep_len t 0
  have hp1 : size t < 1000000 := hp.1
  have hp2 : size v < 1000000 := hp.2
  have hz : ((enc t).zipWith (ndP v) (dep 0 t)).length = size t := by rw [zip_len _ _ _ (by rw [hl, hd]), hl]
  have hfull : ((enc t).zipWith (ndP v) (dep 0 t)).flatten = enc (inst t v) := by rw [ndP_map, pt_inst]
  refine q_setE (v_call t (a_consV (e_var rfl) a_nil) hp1) ?_
  rintro d rfl
  refine q_set (v_tup (ds := []) a_nil) ?_
  refine q_for (it_rng1 (v_cb (a_consV (e_var rfl) a_nil) k_lenT (ds := [.tup (enc t)])) (by rw [hl]; omega) (by rw [hl]; omega))
    (fun i S1 => ∃ (ys : List D) (z1 z2 : Sl), ys = (((enc t).zipWith (ndP v) (dep 0 t)).take i).flatten ∧ ys.length ≤ 1100 ∧ S1 = [.im (.tup (enc t)), .im (.tup (enc v)), .im (.lst (dI (dep 0 t))), .im (.tup ys), z1, z2])
    (fun S1 => ∃ (ys : List D) (z1 z2 : Sl), 1100 < ys.length ∧ 1100 < size (inst t v) ∧ ys.length ≤ 1101 + size v ∧ S1 = [.im (.tup (enc t)), .im (.tup (enc v)), .im (.lst (dI (dep 0 t))), .im (.tup ys), z1, z2])
    ⟨[], .un, .un, by simp, by simp, rfl⟩ ?_ ?_ ?_
  · rintro i d S1 hi ⟨ys, z1, z2, ey, hy, rfl⟩
    obtain ⟨hi1, rfl⟩ := rng_at hi
    rw [hl, Int.toNat_natCast] at hi1
    obtain ⟨x, w, e1, hx, e2, e3⟩ := enc_at hi1
    have tz := congrArg List.flatten (take_zip (ndP v) e1 e2)
    rw [List.flatten_append, ← ey] at tz
    simp only [List.flatten_cons, List.flatten_nil, List.append_nil] at tz
    have gx : atI (enc t) ((i : Nat) : Int) = some x := getN e1 rfl
    have gw : atI (dI (dep 0 t)) ((i : Nat) : Int) = some (.int (w : Int)) := getN e3 rfl
    have hle := ndP_len v x w
    have hsub : (((enc t).zipWith (ndP v) (dep 0 t)).take (i + 1)).flatten.length ≤ size (inst t v) := by
      rw [← enc_len, ← hfull]
      conv => rhs; rw [← List.take_append_drop (i + 1) ((enc t).zipWith (ndP v) (dep 0 t)), List.flatten_append, List.length_append]
      omega
    have hcat : ys.length + (ndP v x w).length ≤ 16777216 := by omega
    refine ⟨_, tg_name, ?_⟩
    refine q_set (v_op (e_var rfl) (e_var rfl) (o_ixT gx)) ?_
    refine q_if (fun S1 => S1 = [.im (.tup (enc t)), .im (.tup (enc v)), .im (.lst (dI (dep 0 t))), .im (.tup (ys ++ ndP v x w)), .im (.int (i : Int)), .im x])
      (Pb := fun b => b = (isS "app" (some x) || (isS "lam" (some x) || (match x with | .int n => decide (n < (w : Int)) | _ => false)))) ?_ ?_ ?_ ?_
    · rcases hx with ⟨n, rfl⟩ | rfl | rfl
      · exact t_orV (a := false) (t_testV (v_op (e_var rfl) e_str o_eqIS)) fun _ => t_orV (a := false) (t_testV (v_op (e_var rfl) e_str o_eqIS)) fun _ => t_testV (v_op (e_var rfl) (v_op (e_var rfl) (e_var rfl) (o_ixL gw)) o_lt)
      · refine ts_is (t_orV (a := false) (b := true) (t_testV (v_op (e_var rfl) e_str eq_la)) fun _ => t_orV (a := true) (b := false) (t_testV (v_op (e_var rfl) e_str eq_ll)) fun e => by cases e) ?_
        simp only [isS, str_ne1, str_eq1]; rfl
      · refine ts_is (t_orV (a := true) (b := false) (t_testV (v_op (e_var rfl) e_str eq_aa)) fun e => by cases e) ?_
        simp only [isS, str_eq2]; rfl
    · intro hb
      have hq : ndP v x w = [x] := by
        rcases hx with ⟨n, rfl⟩ | rfl | rfl
        · have h2 : (n : Int) < (w : Int) := by simpa [isS] using hb.symm
          simp only [ndP]; rw [if_pos h2]
        · rfl
        · rfl
      rw [hq]
      exact c_asgV (v_op (e_var rfl) (v_tup (ds := [x]) (a_consV (e_var rfl) a_nil)) (o_cat (by simp; omega))) rfl
    · intro hb
      rcases hx with ⟨n, rfl⟩ | rfl | rfl
      · have h2 : ¬ (n : Int) < (w : Int) := by simpa [isS] using hb.symm
        refine c_if (t_testV (v_op (e_var rfl) (v_op (e_var rfl) (e_var rfl) (o_ixL gw)) o_eqII)) (fun hb2 => ?_) (fun hb2 => ?_)
        · have h3 : (n : Int) = (w : Int) := of_decide_eq_true hb2.symm
          have hq : ndP v (.int (n : Int)) w = enc (lift w v) := by simp only [ndP]; rw [if_neg h2, if_pos h3]
          rw [hq] at hcat ⊢
          exact c_asgV (v_op (e_var rfl) (v_call (⟨v, w⟩ : GLift) (a_consV (e_var rfl) (a_consV (v_op (e_var rfl) (e_var rfl) (o_ixL gw)) a_nil)) hp2) (o_cat hcat)) rfl
        · have h3 : ¬ (n : Int) = (w : Int) := of_decide_eq_false hb2.symm
          have hq : ndP v (.int (n : Int)) w = [.int ((n : Int) - 1)] := by simp only [ndP]; rw [if_neg h2, if_neg h3]
          rw [hq] at hcat ⊢
          exact c_asgV (v_op (e_var rfl) (v_tup (ds := [.int ((n : Int) - 1)]) (a_consV (v_op (e_var rfl) e_int o_sub) a_nil)) (o_cat hcat)) rfl
      · exfalso; simp only [isS, str_eq1, str_ne1] at hb; cases hb
      · exfalso; simp only [isS, str_eq2] at hb; cases hb
    · rintro S1 rfl
      refine c_if (t_testV (v_op (v_cb (a_consV (e_var rfl) a_nil) k_lenT (ds := [.tup (ys ++ ndP v x w)])) e_int o_gt)) (fun hb => c_brk ?_) (fun hb => c_next ?_)
      · have h4 : (1100 : Int) < ((ys ++ ndP v x w).length : Int) := of_decide_eq_true hb.symm
        rw [List.length_append] at h4
        exact ⟨_, .im (.int (i : Int)), .im x, by rw [List.length_append]; omega, by rw [tz, List.length_append] at hsub; omega, by rw [List.length_append]; omega, rfl⟩
      · have h4 : ¬ (1100 : Int) < ((ys ++ ndP v x w).length : Int) := of_decide_eq_false hb.symm
        exact ⟨_, .im (.int (i : Int)), .im x, tz.symm, by omega, rfl⟩
  · rintro S1 ⟨ys, z1, z2, ey, hy, rfl⟩
    refine c_retV (e_var rfl) ⟨ys, rfl, by omega, .inl ?_⟩
    rw [ey, rngD_len, hl, Int.toNat_natCast, List.take_of_length_le (by rw [hz]; omega), hfull]
  · rintro S1 ⟨ys, z1, z2, h1, h2, h3, rfl⟩
    exact c_retV (e_var rfl) ⟨ys, rfl, h3, .inr ⟨h1, h2⟩⟩
theorem ok__law_put {P : Program} {w : World} {K : PySem.W.Frag} {mg : Str → Option Value} {base : Heap} {C aI f : Addr} {fd : FuncData} (X : Tx K mg C aI) (F : Fun K "_law_put" "_law_put" s__law_put f fd) (hm : mg "_law_put" = some (.ref f)) (D__law_depths : Df P w K mg base 1 "_law_depths" ["_law_term"] (sp__law_depths K C)) (D__law_lift : Df P w K mg base 2 "_law_lift" ["_law_term", "_law_count"] (sp__law_lift K C)) :
    Df P w K mg base 3 "_law_put" ["_law_term", "_law_value"] (sp__law_put K C) :=
  df_mk hm F.kp (F.binds fun _ _ _ _ _ _ us hl => match us, hl with | [_, _], _ => rfl) (F.ok sc__law_put spG_len fun cdv A outer s H vs Q E hr h => ⟨t__law_put K C, pss_cons (ps_set (i := 2) sc__law_put.nd rfl (by first | exact Or.inl rfl | exact Or.inr rfl) (pe_own D__law_depths (hr.mono (by decide)) (by rfl) (pa_cons (pv 0) (pa_nil)))) (pss_cons (ps_set (i := 3) sc__law_put.nd rfl (by first | exact Or.inl rfl | exact Or.inr rfl) (pe_tup (pa_nil))) (pss_cons (ps_for PassesOwn.never rfl (pi_range1 (by rfl) X.range (pa_cons (pe_callB call_len_seq (by rfl) X.len (by decide +kernel) (pa_cons (pv 0) (pa_nil))) (pa_nil))) (pg_name (i := 4) sc__law_put.nd rfl (by first | exact Or.inl rfl | exact Or.inr rfl)) (pss_cons (ps_set (i := 5) sc__law_put.nd rfl (by first | exact Or.inl rfl | exact Or.inr rfl) (pe_ix ix_seq (pv 0) (pv 4) (fun _ _ => rfl))) (pss_cons (ps_if (PW.pt (pw_or (pt_cmpR (op_eq) (pv 5) (pe_str) (nomark _)) (pw_or (pt_cmpR (op_eq) (pv 5) (pe_str) (nomark _)) (pw_or1 (pt_cmpR (op_lt) (pv 5) (pe_ix ix_seq (pv 2) (pv 4) (fun _ _ => rfl)) (nomark _)))))) (pss_one (ps_set (i := 3) sc__law_put.nd rfl (by first | exact Or.inl rfl | exact Or.inr rfl) (pe_op op_catA (pv 3) (pe_tup (pa_cons (pv 5) (pa_nil)))))) (pss_one (ps_if (pt_cmpR (op_eq) (pv 5) (pe_ix ix_seq (pv 2) (pv 4) (fun _ _ => rfl)) (nomark _)) (pss_one (ps_set (i := 3) sc__law_put.nd rfl (by first | exact Or.inl rfl | exact Or.inr rfl) (pe_op op_catA (pv 3) (pe_own D__law_lift (hr.mono (by decide)) (by rfl) (pa_cons (pv 1) (pa_cons (pe_ix ix_seq (pv 2) (pv 4) (fun _ _ => rfl)) (pa_nil))))))) (pss_one (ps_set (i := 3) sc__law_put.nd rfl (by first | exact Or.inl rfl | exact Or.inr rfl) (pe_op op_catA (pv 3) (pe_tup (pa_cons (pe_op op_sub (pv 5) (pe_int)) (pa_nil))))))))) (pss_one (ps_if (pt_cmpR (op_gt) (pe_callB call_len_seq (by rfl) X.len (by decide +kernel) (pa_cons (pv 3) (pa_nil))) (pe_int) (nomark _)) (pss_one (ps_break)) (pss_nil)))))) (pss_one (ps_ret (pv 3))))), run_of (E := E) (c__law_put K C) h⟩)
structure GStep where
  a : List D
  b : Tm
  v : Tm
  c : List D
abbrev aStep (g : GStep) : List Sl := [.im (.tup (g.a ++ enc (.app (.lam g.b) g.v) ++ g.c)), .im (.int (g.a.length : Int))]
abbrev pStep (g : GStep) (d : D) : Prop := ∃ ys : List D, d = .tup ys ∧ (ys = g.a ++ enc (inst g.b g.v) ++ g.c ∨ (1100 < ys.length ∧ 1100 < g.a.length + size (inst g.b g.v) + g.c.length))
def sp__law_step (K : PySem.W.Frag) (C : Addr) : Sp := spG K C 2 aStep (fun g => (g.a ++ enc (.app (.lam g.b) g.v) ++ g.c).length < 1000000) pStep
abbrev s__law_step : Stmt := topS 61
abbrev n__law_step : List Str := ["_law_term", "_law_at", "_law_middle", "_law_end_here"]
theorem sc__law_step : FnScope n__law_step ["_law_term", "_law_at"] (defScope s__law_step) := ⟨rfl, rfl, rfl, by decide +kernel, rfl, by decide +kernel, by decide +kernel⟩
-- calls: ['_law_end', '_law_put']; level 4; slots: 0:_law_term 1:_law_at 2:_law_middle 3:_law_end_here
def t__law_step (K : PySem.W.Frag) (C : Addr) : TS := tSeq (tAsg (tCall (sp__law_end K C) [] E0 (tCons (tVar 0) (tCons (tOp (rAddI) (tVar 1) (tC (.int 1))) (tNil)))) (gName 2)) (tSeq (tAsg (tCall (sp__law_end K C) [] E0 (tCons (tVar 0) (tCons (tVar 2) (tNil)))) (gName 3)) (tRet (tOp (rCatA K) (tOp (rCatA K) (tSl (rSlA K) (tVar 0) (tNoPart) (tPart (tVar 1))) (tCall (sp__law_put K C) [] E0 (tCons (tSl (rSlA K) (tVar 0) (tPart (tOp (rAddI) (tVar 1) (tC (.int 2)))) (tPart (tVar 2))) (tCons (tSl (rSlA K) (tVar 0) (tPart (tVar 2)) (tPart (tVar 3))) (tNil))))) (tSl (rSlA K) (tVar 0) (tPart (tVar 3)) (tNoPart)))))
theorem c__law_step (K : PySem.W.Frag) (C : Addr) (g : GStep) (hp : (g.a ++ enc (.app (.lam g.b) g.v) ++ g.c).length < 1000000) (_ : (aStep g).length = 2) :
    CmD K C (t__law_step K C) (aStep g ++ List.replicate (n__law_step.length - 2) .un) (fun _ => pStep g .non) (pStep g) no no := by
  obtain ⟨a, b, v, c⟩ := g
  have hp' : (a ++ enc (.app (.lam b) v) ++ c).length < 1000000 := hp
  have hlen : a.length + (size b + 1 + size v + 1) + c.length < 1000000 := by
    simp only [List.length_append, enc_len, size] at hp'
    exact hp'
  have e1 : a ++ enc (.app (.lam b) v) ++ c = (a ++ [.str "app"]) ++ enc (.lam b) ++ (enc v ++ c) := by simp [enc]
  have e2 : a ++ enc (.app (.lam b) v) ++ c = (a ++ .str "app" :: enc (.lam b)) ++ enc v ++ c := by simp [enc]
  have e3 : a ++ enc (.app (.lam b) v) ++ c = (a ++ [.str "app", .str "lam"]) ++ enc b ++ (enc v ++ c) := by simp [enc]
  have e4 : a ++ enc (.app (.lam b) v) ++ c = a ++ (enc (.app (.lam b) v) ++ c) := by simp
  refine q_setE (v_call (⟨a ++ [.str "app"], .lam b, enc v ++ c⟩ : GEnd) (a_is (a_consV (e_var rfl) (a_consV (v_op (e_var rfl) e_int o_add) a_nil)) (by simp [aEnd, enc])) trivial) ?_
  rintro d rfl
  refine q_setE (v_call (⟨a ++ .str "app" :: enc (.lam b), v, c⟩ : GEnd) (a_is (a_consV (e_var rfl) (a_consV (e_var rfl) a_nil)) (by simp [aEnd, enc, enc_len, size]; omega)) trivial) ?_
  rintro d rfl
  have sb : cutD (a ++ enc (.app (.lam b) v) ++ c) (some ((a.length : Int) + 2)) (some (((a ++ [D.str "app"]).length + size (.lam b) : Nat) : Int)) = enc b := cut_mid e3 (by simp) (by simp [enc_len, size]; omega)
  have sv : cutD (a ++ enc (.app (.lam b) v) ++ c) (some (((a ++ [D.str "app"]).length + size (.lam b) : Nat) : Int)) (some (((a ++ .str "app" :: enc (.lam b)).length + size v : Nat) : Int)) = enc v := cut_mid e2 (by simp [enc_len, size]; omega) (by simp [enc_len])
  have sa : cutD (a ++ enc (.app (.lam b) v) ++ c) none (some (a.length : Int)) = a := cut_pre e4 rfl
  have sc : cutD (a ++ enc (.app (.lam b) v) ++ c) (some (((a ++ .str "app" :: enc (.lam b)).length + size v : Nat) : Int)) none = c := cut_suf (a := (a ++ .str "app" :: enc (.lam b)) ++ enc v) (by rw [e2]) (by simp [enc_len]; omega)
  have vb := v_slice (K := K) (C := C) (S := [.im (.tup (a ++ enc (.app (.lam b) v) ++ c)), .im (.int (a.length : Int)), .im (.int (((a ++ [D.str "app"]).length + size (.lam b) : Nat) : Int)), .im (.int (((a ++ .str "app" :: enc (.lam b)).length + size v : Nat) : Int))]) (te := tVar 0) (e_var rfl) (po_yes (v_op (e_var (i := 1) rfl) (e_int (i := 2)) o_add)) (po_yes (e_var (i := 2) rfl))
  have vv := v_slice (K := K) (C := C) (S := [.im (.tup (a ++ enc (.app (.lam b) v) ++ c)), .im (.int (a.length : Int)), .im (.int (((a ++ [D.str "app"]).length + size (.lam b) : Nat) : Int)), .im (.int (((a ++ .str "app" :: enc (.lam b)).length + size v : Nat) : Int))]) (te := tVar 0) (e_var rfl) (po_yes (e_var (i := 2) rfl)) (po_yes (e_var (i := 3) rfl))
  rw [sb] at vb
  rw [sv] at vv
  have va := v_slice (K := K) (C := C) (S := [.im (.tup (a ++ enc (.app (.lam b) v) ++ c)), .im (.int (a.length : Int)), .im (.int (((a ++ [D.str "app"]).length + size (.lam b) : Nat) : Int)), .im (.int (((a ++ .str "app" :: enc (.lam b)).length + size v : Nat) : Int))]) (te := tVar 0) (e_var rfl) po_no (po_yes (e_var (i := 1) rfl))
  have vc := v_slice (K := K) (C := C) (S := [.im (.tup (a ++ enc (.app (.lam b) v) ++ c)), .im (.int (a.length : Int)), .im (.int (((a ++ [D.str "app"]).length + size (.lam b) : Nat) : Int)), .im (.int (((a ++ .str "app" :: enc (.lam b)).length + size v : Nat) : Int))]) (te := tVar 0) (e_var rfl) (po_yes (e_var (i := 3) rfl)) po_no
  rw [sa] at va
  rw [sc] at vc
  have vput := v_call (K := K) (C := C) (n := 2) (args := aPut) (pre := fun g => size g.t < 1000000 ∧ size g.v < 1000000) (post := pPut) (⟨b, v⟩ : GPut) (a_consV vb (a_consV vv a_nil)) ⟨by show size b < 1000000; omega, by show size v < 1000000; omega⟩
  refine c_ret (e_op (Q' := fun _ y => y = .tup c) (P := fun x => ∃ ys : List D, x = .tup (a ++ ys) ∧ ys.length ≤ 1101 + size v ∧ (ys = enc (inst b v) ∨ (1100 < ys.length ∧ 1100 < size (inst b v)))) (R := pStep ⟨a, b, v, c⟩) ?_ (fun _ _ => vc) ?_) (fun d h => h)
  · refine e_op (Q' := fun _ y => pPut ⟨b, v⟩ y) va (fun _ _ => vput) ?_
    rintro x y rfl ⟨ys, rfl, h1, h2⟩
    have h1' : ys.length ≤ 1101 + size v := h1
    exact fun Z B H vx vy Q sm str r1 r2 q => o_cat (xs := a) (ys := ys) (by omega) Z B H vx vy Q sm str r1 r2 fun u d B' H' e => q u d B' H' ⟨ys, e, h1, h2⟩
  · rintro x y ⟨ys, rfl, h1, h2⟩ rfl
    refine fun Z B H vx vy Q sm str r1 r2 q => o_cat (xs := a ++ ys) (ys := c) (by rw [List.length_append]; omega) Z B H vx vy Q sm str r1 r2 fun u d B' H' e => q u d B' H' ⟨a ++ ys ++ c, e, ?_⟩
    rcases h2 with h2 | ⟨h2, h3⟩
    · left; rw [h2]
    · right; exact ⟨by simp only [List.length_append]; omega, by show 1100 < a.length + size (inst b v) + c.length; omega⟩
theorem ok__law_step {P : Program} {w : World} {K : PySem.W.Frag} {mg : Str → Option Value} {base : Heap} {C aI f : Addr} {fd : FuncData} (X : Tx K mg C aI) (F : Fun K "_law_step" "_law_step" s__law_step f fd) (hm : mg "_law_step" = some (.ref f)) (D__law_end : Df P w K mg base 1 "_law_end" ["_law_term", "_law_at"] (sp__law_end K C)) (D__law_put : Df P w K mg base 3 "_law_put" ["_law_term", "_law_value"] (sp__law_put K C)) :
    Df P w K mg base 4 "_law_step" ["_law_term", "_law_at"] (sp__law_step K C) :=
  df_mk hm F.kp (F.binds fun _ _ _ _ _ _ us hl => match us, hl with | [_, _], _ => rfl) (F.ok sc__law_step spG_len fun cdv A outer s H vs Q E hr h => ⟨t__law_step K C, pss_cons (ps_set (i := 2) sc__law_step.nd rfl (by first | exact Or.inl rfl | exact Or.inr rfl) (pe_own D__law_end (hr.mono (by decide)) (by rfl) (pa_cons (pv 0) (pa_cons (pe_op op_add (pv 1) (pe_int)) (pa_nil))))) (pss_cons (ps_set (i := 3) sc__law_step.nd rfl (by first | exact Or.inl rfl | exact Or.inr rfl) (pe_own D__law_end (hr.mono (by decide)) (by rfl) (pa_cons (pv 0) (pa_cons (pv 2) (pa_nil))))) (pss_one (ps_ret (pe_op op_catA (pe_op op_catA (pe_slice sl_tupA (pv 0) (po_none) (po_some (pv 1))) (pe_own D__law_put (hr.mono (by decide)) (by rfl) (pa_cons (pe_slice sl_tupA (pv 0) (po_some (pe_op op_add (pv 1) (pe_int))) (po_some (pv 2))) (pa_cons (pe_slice sl_tupA (pv 0) (po_some (pv 2)) (po_some (pv 3))) (pa_nil))))) (pe_slice sl_tupA (pv 0) (po_some (pv 3)) (po_none)))))), run_of (E := E) (c__law_step K C) h⟩)
end Wk
end
section
set_option Elab.async false
set_option autoImplicit false
set_option linter.all false
set_option maxRecDepth 100000
set_option maxHeartbeats 4000000
/-! _law_redexes, _law_normal, _law_leads, _law_applied, _law_projection, _law_becomes. -/
namespace Wk
open PySem L2 Dl Dx Lam
def sp__law_redexes (K : PySem.W.Frag) (C : Addr) : Sp := spG K C 1 (fun t : Tm => [.im (.tup (enc t))]) (fun t => size t < 1000000) (fun t d => d = .lst (dI (rd 0 t)))
abbrev s__law_redexes : Stmt := topS 62
abbrev n__law_redexes : List Str := ["_law_term", "_law_k"]
theorem sc__law_redexes : FnScope n__law_redexes ["_law_term"] (defScope s__law_redexes) := ⟨rfl, rfl, rfl, by decide +kernel, rfl, by decide +kernel, by decide +kernel⟩
-- calls: []; level 1; slots: 0:_law_term 1:_law_k
def t__law_redexes (K : PySem.W.Frag) (C : Addr) : TS := tRet (tLc (iRng1 (tCons (tOp (rSubI) (tCB (rLenS K) (tCons (tVar 0) (tNil))) (tC (.int 1))) (tNil))) (gName 1) (tAnd (tTest (tOp (rEq) (tOp (rIx K) (tVar 0) (tVar 1)) (tC (.str "app")))) (tTest (tOp (rEq) (tOp (rIx K) (tVar 0) (tOp (rAddI) (tVar 1) (tC (.int 1)))) (tC (.str "lam"))))) (tVar 1) [1])
def rdF (xs : List D) (d : D) : Option D := match d with
  | .int i => if rdAt xs i.toNat then some (.int i) else none
  | _ => none
theorem rdF_map (xs : List D) (n : Nat) : (rngD 0 n).filterMap (rdF xs) = dI ((List.range n).filter (rdAt xs)) := by
  unfold rngD dI
  rw [List.filterMap_map]
  induction List.range n with
  | nil => rfl
  | cons k ks ih =>
    rw [List.filterMap_cons, List.filter_cons]
    simp only [Function.comp, rdF, Int.zero_add, Int.toNat_natCast] at ih ⊢
    cases rdAt xs k
    · simpa using ih
    · simp [ih]
theorem c__law_redexes (K : PySem.W.Frag) (C : Addr) (t : Tm) (hp : size t < 1000000) (_ : ([.im (.tup (enc t))] : List Sl).length = 1) :
    CmD K C (t__law_redexes K C) ([.im (.tup (enc t))] ++ List.replicate (n__law_redexes.length - 1) .un) (fun _ => (.non : D) = .lst (dI (rd 0 t))) (fun d => d = .lst (dI (rd 0 t))) no no := by
  have hl := enc_len t
  have hpos := size_pos t
  have e : ((enc t).length : Int) - 1 = ((size t - 1 : Nat) : Int) := by rw [hl]; omega
  refine c_retV (v_is (v_lcm (rdF (enc t)) (it_rng1 (v_is (v_op (v_cb (a_consV (e_var rfl) a_nil) k_lenT (ds := [.tup (enc t)])) e_int o_sub) (by rw [e])) (by omega) (by omega)) rfl (fun d hd => ?_) (by rw [rngD_len, Int.toNat_natCast]; omega)) ?_) rfl
  · obtain ⟨i, hi⟩ := List.getElem?_of_mem hd
    obtain ⟨hi1, rfl⟩ := rng_at hi
    rw [Int.toNat_natCast] at hi1
    obtain ⟨x, w, e1, hx, _, _⟩ := enc_at (t := t) (i := i) (by omega)
    obtain ⟨y, w', e2, hy, _, _⟩ := enc_at (t := t) (i := i + 1) (by omega)
    have gx : atI (enc t) ((i : Nat) : Int) = some x := getN e1 rfl
    have gy : atI (enc t) ((i : Nat) + 1 : Int) = some y := getN e2 (by simp)
    refine ⟨rdAt (enc t) i, ?_, fun hb => ⟨.int (i : Int), ?_, e_var rfl⟩, fun hb => ?_⟩
    · have t1 : TsD K C (tTest (tOp rEq (tOp (rIx K) (tVar 0) (tVar 1)) (tC (.str "app")))) ([Sl.im (.tup (enc t)), .un].set 1 (.im (.int (i : Int)))) (fun b => b = isS "app" (some x)) := by
        rcases hx with ⟨n, rfl⟩ | rfl | rfl
        · exact t_testV (v_op (v_op (e_var rfl) (e_var rfl) (o_ixT gx)) e_str o_eqIS)
        · exact ts_is (t_testV (v_op (v_op (e_var rfl) (e_var rfl) (o_ixT gx)) e_str eq_la)) str_ne1.symm
        · exact ts_is (t_testV (v_op (v_op (e_var rfl) (e_var rfl) (o_ixT gx)) e_str eq_aa)) str_eq2.symm
      have t2 : TsD K C (tTest (tOp rEq (tOp (rIx K) (tVar 0) (tOp rAddI (tVar 1) (tC (.int 1)))) (tC (.str "lam")))) ([Sl.im (.tup (enc t)), .un].set 1 (.im (.int (i : Int)))) (fun b => b = isS "lam" (some y)) := by
        rcases hy with ⟨n, rfl⟩ | rfl | rfl
        · exact t_testV (v_op (v_op (e_var rfl) (v_op (e_var rfl) e_int o_add) (o_ixT gy)) e_str o_eqIS)
        · exact ts_is (t_testV (v_op (v_op (e_var rfl) (v_op (e_var rfl) e_int o_add) (o_ixT gy)) e_str eq_ll)) str_eq1.symm
        · exact ts_is (t_testV (v_op (v_op (e_var rfl) (v_op (e_var rfl) e_int o_add) (o_ixT gy)) e_str eq_al)) str_ne2.symm
      exact ts_is (t_andV t1 fun _ => t2) (by unfold rdAt; rw [e1, e2])
    · simp only [rdF, Int.toNat_natCast]
      rw [if_pos hb]
    · simp only [rdF, Int.toNat_natCast]
      rw [if_neg (by rw [hb]; decide)]
  · rw [rdF_map, Int.toNat_natCast, rd_range]
theorem ok__law_redexes {P : Program} {w : World} {K : PySem.W.Frag} {mg : Str → Option Value} {base : Heap} {C aI f : Addr} {fd : FuncData} (X : Tx K mg C aI) (F : Fun K "_law_redexes" "_law_redexes" s__law_redexes f fd) (hm : mg "_law_redexes" = some (.ref f))  :
    Df P w K mg base 1 "_law_redexes" ["_law_term"] (sp__law_redexes K C) :=
  df_mk hm F.kp (F.binds fun _ _ _ _ _ _ us hl => match us, hl with | [_], _ => rfl) (F.ok sc__law_redexes spG_len fun cdv A outer s H vs Q E hr h => ⟨t__law_redexes K C, pss_one (ps_ret (pe_lc (own := [("_law_k", 1)]) (g := gName 1) rfl sc__law_redexes.nd (pi_range1 (by rfl) X.range (pa_cons (pe_op op_sub (pe_callB call_len_seq (by rfl) X.len (by decide +kernel) (pa_cons (pv 0) (pa_nil))) (pe_int)) (pa_nil))) (blkOk_by (own := [("_law_k", 1)]) (N := n__law_redexes) (sc := defScope s__law_redexes) (by decide +kernel)) (fun _ _ _ _ _ => pg_name (i := 1) sc__law_redexes.nd rfl (by first | exact Or.inl rfl | exact Or.inr rfl)) (fun _ _ _ _ _ => pts_one (PW.pt (pw_and (pt_cmpR (op_eq) (pe_ix ix_seq (pv 0) (pv 1) (fun _ _ => rfl)) (pe_str) (nomark _)) (pw_and1 (pt_cmpR (op_eq) (pe_ix ix_seq (pv 0) (pe_op op_add (pv 1) (pe_int)) (fun _ _ => rfl)) (pe_str) (nomark _)))))) (fun _ _ _ _ _ => pv 1))), run_of (E := E) (c__law_redexes K C) h⟩)
theorem isqs_dI (k : Nat) : ∀ ns : List Nat, isqs k (dI ns) = true
  | [] => by cases k <;> rfl
  | n :: ns => by
    have := isqs_dI k ns
    simp only [dI] at this
    cases k <;> simp [dI, isqs, isq, this]
theorem isq_dI (ns : List Nat) : isq 1 (.lst (dI ns)) = true := by simp only [isq]; exact isqs_dI 0 ns
theorem isq_nil : isq 1 (.lst []) = true := rfl
theorem dI_nil_iff (ns : List Nat) : (ns.isEmpty = true) ↔ D.lst (dI ns) = D.lst [] := by
  cases ns <;> simp [dI]
/-- rows == [] -/
theorem t_rows {K : PySem.W.Frag} {C : Addr} {S : List Sl} {te : TE} {ns : List Nat} (h : VlD K C te S (.lst (dI ns))) : TsD K C (tTest (tOp (rEqD K) te (tLst tNil))) S (fun b => b = ns.isEmpty) :=
  t_testV (v_op h (v_lst (ds := []) a_nil) (o_eqD (isq_dI ns) isq_nil (by decide) (by decide) (dI_nil_iff ns)))
structure GNorm where
  t : Tm
  n : Nat
abbrev aNorm (g : GNorm) : List Sl := [.im (.tup (enc g.t)), .im (.int (g.n : Int))]
abbrev pNorm (g : GNorm) (d : D) : Prop := d = .non ∨ ∃ (u : Tm) (j : Nat), d = .tup [.tup (enc u), .int (j : Int)] ∧ Betas g.t u ∧ nf u = true ∧ size u ≤ size g.t + 1000
def sp__law_normal (K : PySem.W.Frag) (C : Addr) : Sp := spG K C 2 aNorm (fun g => size g.t < 900000 ∧ g.n ≤ 1000) pNorm
abbrev s__law_normal : Stmt := topS 68
abbrev n__law_normal : List Str := ["_law_term", "_law_steps", "_law_k", "_law_rows"]
theorem sc__law_normal : FnScope n__law_normal ["_law_term", "_law_steps"] (defScope s__law_normal) := ⟨rfl, rfl, rfl, by decide +kernel, rfl, by decide +kernel, by decide +kernel⟩
-- calls: ['_law_redexes', '_law_step']; level 5; slots: 0:_law_term 1:_law_steps 2:_law_k 3:_law_rows
def t__law_normal (K : PySem.W.Frag) (C : Addr) : TS := tSeq (tFor (iRng1 (tCons (tOp (rAddI) (tVar 1) (tC (.int 1))) (tNil))) (gName 2) (tSeq (tAsg (tCall (sp__law_redexes K C) [] E0 (tCons (tVar 0) (tNil))) (gName 3)) (tSeq (tIfS (tTest (tOp (rEqD K) (tVar 3) (tLst (tNil)))) (tRet (tTup (tCons (tVar 0) (tCons (tVar 2) (tNil))))) (tNext)) (tSeq (tIfS (tTest (tOp (rEq) (tVar 2) (tVar 1))) (tBreak) (tNext)) (tSeq (tAsg (tCall (sp__law_step K C) [] E0 (tCons (tVar 0) (tCons (tOp (rIx K) (tVar 3) (tC (.int 0))) (tNil)))) (gName 0)) (tIfS (tTest (tOp (rGtI) (tCB (rLenS K) (tCons (tVar 0) (tNil))) (tC (.int 1000)))) (tBreak) (tNext))))))) (tRet (tC .non))
theorem rd_case (t : Tm) : (rd 0 t = [] ∧ nf t = true) ∨ ∃ k r a b v c u, rd 0 t = k :: r ∧ enc t = a ++ enc (.app (.lam b) v) ++ c ∧ k = a.length ∧ step1 t = some u ∧ enc u = a ++ enc (inst b v) ++ c := by
  cases e : rd 0 t with
  | nil => exact .inl ⟨rfl, rd_nil e⟩
  | cons k r =>
    obtain ⟨a, b, v, c, u, h1, h2, h3, h4⟩ := rd_first e
    exact .inr ⟨k, r, a, b, v, c, u, rfl, h1, by rw [h2, Nat.zero_add], h3, h4⟩
theorem c__law_normal (K : PySem.W.Frag) (C : Addr) (g : GNorm) (hp : size g.t < 900000 ∧ g.n ≤ 1000) (_ : (aNorm g).length = 2) :
    CmD K C (t__law_normal K C) (aNorm g ++ List.replicate (n__law_normal.length - 2) .un) (fun _ => pNorm g .non) (pNorm g) no no := by
  obtain ⟨t, n⟩ := g
  have hp1 : size t < 900000 := hp.1
  have hp2 : n ≤ 1000 := hp.2
  refine q_for (it_rng1 (v_op (e_var rfl) e_int o_add) (by omega) (by omega)) (fun i S1 => ∃ (u : Tm) (z1 z2 : Sl), Betas t u ∧ size u ≤ size t + 1000 ∧ S1 = [.im (.tup (enc u)), .im (.int (n : Int)), z1, z2])
    (fun _ => True) ⟨t, .un, .un, .refl t, by omega, rfl⟩ ?_ (fun S1 _ => c_retV e_non (.inl rfl)) (fun S1 _ => c_retV e_non (.inl rfl))
  rintro i d S1 hi ⟨u, z1, z2, hb, hs, rfl⟩
  obtain ⟨hi1, rfl⟩ := rng_at hi
  refine ⟨_, tg_name, ?_⟩
  refine q_setE (v_call u (a_consV (e_var rfl) a_nil) (show size u < 1000000 by omega)) ?_
  rintro d rfl
  rcases rd_case u with ⟨er, hn⟩ | ⟨k, r, a, b, v, c, u2, er, eu, ek, est, eu2⟩
  · rw [er]
    exact q_yes (t_rows (ns := []) (e_var rfl)) (q_retE (v_tup (ds := [.tup (enc u), .int (i : Int)]) (a_consV (e_var rfl) (a_consV (e_var rfl) a_nil))) fun d e => .inr ⟨u, i, e, hb, hn, hs⟩)
  · rw [er]
    have hlen : size u = a.length + (size b + 1 + size v + 1) + c.length := by
      have := congrArg List.length eu
      simp only [List.length_append, enc_len, size] at this
      exact this
    refine q_no (t_rows (ns := k :: r) (e_var rfl)) (q_next ?_)
    refine q_ways (t_testV (v_op (e_var rfl) (e_var rfl) o_eqII)) (fun _ => q_brk trivial) (fun _ => q_next ?_)
    refine q_setE (v_call (⟨a, b, v, c⟩ : GStep) (a_is (a_consV (e_var rfl) (a_consV (v_op (e_var rfl) e_int (o_ixL (d := .int (k : Int)) (atI_pos (n := 0) rfl))) a_nil)) (by rw [ek]; simp only [aStep]; rw [eu])) (show (a ++ enc (.app (.lam b) v) ++ c).length < 1000000 by rw [← eu, enc_len]; omega)) ?_
    rintro d ⟨ys, rfl, hy⟩
    refine c_if (t_testV (v_op (v_cb (a_consV (e_var rfl) a_nil) k_lenT (ds := [.tup ys])) e_int o_gt)) (fun hb2 => c_brk trivial) (fun hb2 => c_next ?_)
    have h4 : ¬ (1000 : Int) < (ys.length : Int) := of_decide_eq_false hb2.symm
    rcases hy with hy | ⟨hy, _⟩
    · have hy' : ys = enc u2 := by rw [eu2]; exact hy
      have hz : size u2 ≤ 1000 := by rw [← enc_len, ← hy']; omega
      exact ⟨u2, .im (.int (i : Int)), .im (.lst (dI (k :: r))), hb.trans (.one (step1_beta est)), by omega, by rw [hy']; rfl⟩
    · omega
theorem ok__law_normal {P : Program} {w : World} {K : PySem.W.Frag} {mg : Str → Option Value} {base : Heap} {C aI f : Addr} {fd : FuncData} (X : Tx K mg C aI) (F : Fun K "_law_normal" "_law_normal" s__law_normal f fd) (hm : mg "_law_normal" = some (.ref f)) (D__law_redexes : Df P w K mg base 1 "_law_redexes" ["_law_term"] (sp__law_redexes K C)) (D__law_step : Df P w K mg base 4 "_law_step" ["_law_term", "_law_at"] (sp__law_step K C)) :
    Df P w K mg base 5 "_law_normal" ["_law_term", "_law_steps"] (sp__law_normal K C) :=
  df_mk hm F.kp (F.binds fun _ _ _ _ _ _ us hl => match us, hl with | [_, _], _ => rfl) (F.ok sc__law_normal spG_len fun cdv A outer s H vs Q E hr h => ⟨t__law_normal K C, pss_cons (ps_for PassesOwn.never rfl (pi_range1 (by rfl) X.range (pa_cons (pe_op op_add (pv 1) (pe_int)) (pa_nil))) (pg_name (i := 2) sc__law_normal.nd rfl (by first | exact Or.inl rfl | exact Or.inr rfl)) (pss_cons (ps_set (i := 3) sc__law_normal.nd rfl (by first | exact Or.inl rfl | exact Or.inr rfl) (pe_own D__law_redexes (hr.mono (by decide)) (by rfl) (pa_cons (pv 0) (pa_nil)))) (pss_cons (ps_if (pt_cmpR (op_eqD hr.units) (pv 3) (pe_lst (pa_nil)) (nomark _)) (pss_one (ps_ret (pe_tup (pa_cons (pv 0) (pa_cons (pv 2) (pa_nil)))))) (pss_nil)) (pss_cons (ps_if (pt_cmpR (op_eq) (pv 2) (pv 1) (nomark _)) (pss_one (ps_break)) (pss_nil)) (pss_cons (ps_set (i := 0) sc__law_normal.nd rfl (by first | exact Or.inl rfl | exact Or.inr rfl) (pe_own D__law_step (hr.mono (by decide)) (by rfl) (pa_cons (pv 0) (pa_cons (pe_ix ix_seq (pv 3) (pe_int) (fun _ _ => rfl)) (pa_nil))))) (pss_one (ps_if (pt_cmpR (op_gt) (pe_callB call_len_seq (by rfl) X.len (by decide +kernel) (pa_cons (pv 0) (pa_nil))) (pe_int) (nomark _)) (pss_one (ps_break)) (pss_nil)))))))) (pss_one (ps_ret (pe_non))), run_of (E := E) (c__law_normal K C) h⟩)
/-- what _law_leads answers -/
def leadsM : Nat → Tm → Tm → Option Bool
  | 0, _, _ => none
  | n + 1, t, due => match step1 t with
    | none => some (decide (t = due))
    | some u => if size u > 1000 then none else leadsM n u due
def dOB : Option Bool → D
  | none => .non
  | some b => .bl b
structure GLeads where
  t : Tm
  due : Tm
abbrev aLeads (g : GLeads) : List Sl := [.im (.tup (enc g.t)), .im (.tup (enc g.due))]
abbrev pLeads (g : GLeads) (d : D) : Prop := d = dOB (leadsM 400 g.t g.due)
def sp__law_leads (K : PySem.W.Frag) (C : Addr) : Sp := spG K C 2 aLeads (fun g => size g.t < 900000) pLeads
abbrev s__law_leads : Stmt := topS 76
abbrev n__law_leads : List Str := ["_law_term", "_law_due", "_law_k", "_law_rows"]
theorem sc__law_leads : FnScope n__law_leads ["_law_term", "_law_due"] (defScope s__law_leads) := ⟨rfl, rfl, rfl, by decide +kernel, rfl, by decide +kernel, by decide +kernel⟩
-- calls: ['_law_redexes', '_law_step']; level 5; slots: 0:_law_term 1:_law_due 2:_law_k 3:_law_rows
def t__law_leads (K : PySem.W.Frag) (C : Addr) : TS := tSeq (tFor (iRng1 (tCons (tC (.int 400)) (tNil))) (gName 2) (tSeq (tAsg (tCall (sp__law_redexes K C) [] E0 (tCons (tVar 0) (tNil))) (gName 3)) (tSeq (tIfS (tTest (tOp (rEqD K) (tVar 3) (tLst (tNil)))) (tRet (tOp (rEqD K) (tVar 0) (tVar 1))) (tNext)) (tSeq (tAsg (tCall (sp__law_step K C) [] E0 (tCons (tVar 0) (tCons (tOp (rIx K) (tVar 3) (tC (.int 0))) (tNil)))) (gName 0)) (tIfS (tTest (tOp (rGtI) (tCB (rLenS K) (tCons (tVar 0) (tNil))) (tC (.int 1000)))) (tRet (tC .non)) (tNext)))))) (tRet (tC .non))
theorem c__law_leads (K : PySem.W.Frag) (C : Addr) (g : GLeads) (hp : size g.t < 900000) (_ : (aLeads g).length = 2) :
    CmD K C (t__law_leads K C) (aLeads g ++ List.replicate (n__law_leads.length - 2) .un) (fun _ => pLeads g .non) (pLeads g) no no := by
  obtain ⟨t, due⟩ := g
  have hp1 : size t < 900000 := hp
  refine q_for (it_rng1 e_int (by decide) (by decide)) (fun i S1 => ∃ (u : Tm) (z1 z2 : Sl), leadsM (400 - i) u due = leadsM 400 t due ∧ size u < 900000 ∧ S1 = [.im (.tup (enc u)), .im (.tup (enc due)), z1, z2])
    no ⟨t, .un, .un, rfl, hp1, rfl⟩ ?_ ?_ (fun _ h => h.elim)
  · rintro i d S1 hi ⟨u, z1, z2, hb, hs, rfl⟩
    obtain ⟨hi1, rfl⟩ := rng_at hi
    have hi2 : i < 400 := hi1
    obtain ⟨m, hm⟩ : ∃ m, 400 - i = m + 1 := ⟨399 - i, by omega⟩
    have hm2 : 400 - (i + 1) = m := by omega
    rw [hm] at hb
    refine ⟨_, tg_name, ?_⟩
    refine q_setE (v_call u (a_consV (e_var rfl) a_nil) (show size u < 1000000 by omega)) ?_
    rintro d rfl
    rcases rd_case u with ⟨er, hn⟩ | ⟨k, r, a, b, v, c, u2, er, eu, ek, est, eu2⟩
    · rw [er]
      refine q_yes (t_rows (ns := []) (e_var rfl)) (q_ret (v_op (e_var rfl) (e_var rfl) (o_eqD (isq_enc u) (isq_enc due) (by decide) (by decide) (b := decide (u = due)) (encT_iff (by simp)))) ?_)
      show _ = dOB (leadsM 400 t due)
      rw [← hb]
      simp only [leadsM, step1_none hn, dOB]
    · rw [er]
      have hlen : size u = a.length + (size b + 1 + size v + 1) + c.length := by
        have := congrArg List.length eu
        simp only [List.length_append, enc_len, size] at this
        exact this
      have hlen2 : size u2 = a.length + size (inst b v) + c.length := by
        have := congrArg List.length eu2
        simp only [List.length_append, enc_len] at this
        exact this
      have hstep : leadsM (m + 1) u due = if size u2 > 1000 then none else leadsM m u2 due := by simp only [leadsM, est]
      rw [hstep] at hb
      refine q_no (t_rows (ns := k :: r) (e_var rfl)) (q_next ?_)
      refine q_setE (v_call (⟨a, b, v, c⟩ : GStep) (a_is (a_consV (e_var rfl) (a_consV (v_op (e_var rfl) e_int (o_ixL (d := .int (k : Int)) (atI_pos (n := 0) rfl))) a_nil)) (by rw [ek]; simp only [aStep]; rw [eu])) (show (a ++ enc (.app (.lam b) v) ++ c).length < 1000000 by rw [← eu, enc_len]; omega)) ?_
      rintro d ⟨ys, rfl, hy⟩
      have hys : (1000 < ys.length ↔ 1000 < size u2) ∧ (¬ 1000 < ys.length → ys = enc u2) := by
        rcases hy with hy | ⟨hy, hy2⟩
        · have hy' : ys = enc u2 := by rw [eu2]; exact hy
          exact ⟨by rw [hy', enc_len], fun _ => hy'⟩
        · have hy2' : 1100 < a.length + size (inst b v) + c.length := hy2
          exact ⟨⟨fun _ => by omega, fun _ => by omega⟩, fun z => by omega⟩
      refine c_if (t_testV (v_op (v_cb (a_consV (e_var rfl) a_nil) k_lenT (ds := [.tup ys])) e_int o_gt)) (fun hb2 => c_retV e_non ?_) (fun hb2 => c_next ?_)
      · have h4 : (1000 : Int) < (ys.length : Int) := of_decide_eq_true hb2.symm
        have h5 : size u2 > 1000 := hys.1.mp (by omega)
        rw [if_pos h5] at hb
        show _ = dOB (leadsM 400 t due)
        rw [← hb]; rfl
      · have h4 : ¬ (1000 : Int) < (ys.length : Int) := of_decide_eq_false hb2.symm
        have h5 : ¬ size u2 > 1000 := fun z => by have := hys.1.mpr z; omega
        rw [if_neg h5] at hb
        exact ⟨u2, .im (.int (i : Int)), .im (.lst (dI (k :: r))), by rw [hm2]; exact hb, by omega, by rw [hys.2 (by omega)]; rfl⟩
  · rintro S1 ⟨u, z1, z2, hb, hs, rfl⟩
    refine c_retV e_non ?_
    show _ = dOB (leadsM 400 t due)
    rw [← hb]
    rfl
theorem ok__law_leads {P : Program} {w : World} {K : PySem.W.Frag} {mg : Str → Option Value} {base : Heap} {C aI f : Addr} {fd : FuncData} (X : Tx K mg C aI) (F : Fun K "_law_leads" "_law_leads" s__law_leads f fd) (hm : mg "_law_leads" = some (.ref f)) (D__law_redexes : Df P w K mg base 1 "_law_redexes" ["_law_term"] (sp__law_redexes K C)) (D__law_step : Df P w K mg base 4 "_law_step" ["_law_term", "_law_at"] (sp__law_step K C)) :
    Df P w K mg base 5 "_law_leads" ["_law_term", "_law_due"] (sp__law_leads K C) :=
  df_mk hm F.kp (F.binds fun _ _ _ _ _ _ us hl => match us, hl with | [_, _], _ => rfl) (F.ok sc__law_leads spG_len fun cdv A outer s H vs Q E hr h => ⟨t__law_leads K C, pss_cons (ps_for PassesOwn.never rfl (pi_range1 (by rfl) X.range (pa_cons (pe_int) (pa_nil))) (pg_name (i := 2) sc__law_leads.nd rfl (by first | exact Or.inl rfl | exact Or.inr rfl)) (pss_cons (ps_set (i := 3) sc__law_leads.nd rfl (by first | exact Or.inl rfl | exact Or.inr rfl) (pe_own D__law_redexes (hr.mono (by decide)) (by rfl) (pa_cons (pv 0) (pa_nil)))) (pss_cons (ps_if (pt_cmpR (op_eqD hr.units) (pv 3) (pe_lst (pa_nil)) (nomark _)) (pss_one (ps_ret (pe_cmpR (op_eqD hr.units) (pv 0) (pv 1) (nomark _)))) (pss_nil)) (pss_cons (ps_set (i := 0) sc__law_leads.nd rfl (by first | exact Or.inl rfl | exact Or.inr rfl) (pe_own D__law_step (hr.mono (by decide)) (by rfl) (pa_cons (pv 0) (pa_cons (pe_ix ix_seq (pv 3) (pe_int) (fun _ _ => rfl)) (pa_nil))))) (pss_one (ps_if (pt_cmpR (op_gt) (pe_callB call_len_seq (by rfl) X.len (by decide +kernel) (pa_cons (pv 0) (pa_nil))) (pe_int) (nomark _)) (pss_one (ps_ret (pe_non))) (pss_nil))))))) (pss_one (ps_ret (pe_non))), run_of (E := E) (c__law_leads K C) h⟩)
/-! applications -/
def apps (t : Tm) (as : List Tm) : Tm := as.foldl Tm.app t
abbrev dT (ts : List Tm) : List D := ts.map fun t => D.tup (enc t)
structure GApp where
  t : Tm
  as : List Tm
abbrev aApp (g : GApp) : List Sl := [.im (.tup (enc g.t)), .im (.lst (dT g.as))]
def sp__law_applied (K : PySem.W.Frag) (C : Addr) : Sp := spG K C 2 aApp (fun g => size (apps g.t g.as) < 900000) (fun g d => d = .tup (enc (apps g.t g.as)))
abbrev s__law_applied : Stmt := topS 74
abbrev n__law_applied : List Str := ["_law_term", "_law_rows", "_law_row"]
theorem sc__law_applied : FnScope n__law_applied ["_law_term", "_law_rows"] (defScope s__law_applied) := ⟨rfl, rfl, rfl, by decide +kernel, rfl, by decide +kernel, by decide +kernel⟩
-- calls: []; level 1; slots: 0:_law_term 1:_law_rows 2:_law_row
def t__law_applied (K : PySem.W.Frag) (C : Addr) : TS := tSeq (tFor (iList K (tVar 1)) (gName 2) (tAsg (tOp (rCatA K) (tOp (rCatA K) (tTup (tCons (tC (.str "app")) (tNil))) (tVar 0)) (tVar 2)) (gName 0))) (tRet (tVar 0))
theorem size_apps : ∀ (as : List Tm) (t : Tm), size (apps t as) = size t + (as.map fun a => size a + 1).sum
  | [], t => by simp [apps]
  | a :: as, t => by
    show size (apps (.app t a) as) = _
    rw [size_apps as]
    simp only [size, List.map_cons, List.sum_cons]
    omega
theorem c__law_applied (K : PySem.W.Frag) (C : Addr) (g : GApp) (hp : size (apps g.t g.as) < 900000) (_ : (aApp g).length = 2) :
    CmD K C (t__law_applied K C) (aApp g ++ List.replicate (n__law_applied.length - 2) .un) (fun _ => (.non : D) = .tup (enc (apps g.t g.as))) (fun d => d = .tup (enc (apps g.t g.as))) no no := by
  obtain ⟨t, as⟩ := g
  have hp1 : size (apps t as) < 900000 := hp
  refine q_forR (it_list (e_var rfl)) (fun r S1 => ∃ (u : Tm) (bs : List Tm) (z : Sl), r = dT bs ∧ apps u bs = apps t as ∧ S1 = [.im (.tup (enc u)), .im (.lst (dT as)), z]) no ⟨t, as, .un, rfl, rfl, rfl⟩ ?_ ?_ (fun _ h => h.elim)
  · rintro d r S1 ⟨u, bs, z, er, ea, rfl⟩
    cases bs with
    | nil => cases er
    | cons b bs =>
      simp only [dT, List.map_cons, List.cons.injEq] at er
      obtain ⟨rfl, rfl⟩ := er
      refine ⟨_, tg_name, ?_⟩
      have hs : size u + (size b + 1) < 900000 := by
        have e1 := size_apps (b :: bs) u
        rw [ea] at e1
        simp only [List.map_cons, List.sum_cons] at e1
        omega
      refine c_asgV (v_op (v_op (v_tup (ds := [.str "app"]) (a_consV e_str a_nil)) (e_var rfl) (o_cat (by simp [enc_len]; omega))) (e_var rfl) (o_cat (by simp [enc_len]; omega))) ⟨.app u b, bs, .im (.tup (enc b)), rfl, ea, ?_⟩
      show [_, _, _] = _
      simp [enc]
  · rintro S1 ⟨u, bs, z, er, ea, rfl⟩
    cases bs with
    | cons b bs => cases er
    | nil =>
      refine c_retV (e_var rfl) ?_
      have e : u = apps t as := ea
      rw [e]
theorem ok__law_applied {P : Program} {w : World} {K : PySem.W.Frag} {mg : Str → Option Value} {base : Heap} {C aI f : Addr} {fd : FuncData} (X : Tx K mg C aI) (F : Fun K "_law_applied" "_law_applied" s__law_applied f fd) (hm : mg "_law_applied" = some (.ref f))  :
    Df P w K mg base 1 "_law_applied" ["_law_term", "_law_rows"] (sp__law_applied K C) :=
  df_mk hm F.kp (F.binds fun _ _ _ _ _ _ us hl => match us, hl with | [_, _], _ => rfl) (F.ok sc__law_applied spG_len fun cdv A outer s H vs Q E hr h => ⟨t__law_applied K C, pss_cons (ps_for PassesOwn.never rfl (pi_list (pv 1)) (pg_name (i := 2) sc__law_applied.nd rfl (by first | exact Or.inl rfl | exact Or.inr rfl)) (pss_one (ps_set (i := 0) sc__law_applied.nd rfl (by first | exact Or.inl rfl | exact Or.inr rfl) (pe_op op_catA (pe_op op_catA (pe_tup (pa_cons (pe_str) (pa_nil))) (pv 0)) (pv 2))))) (pss_one (ps_ret (pv 0))), run_of (E := E) (c__law_applied K C) h⟩)
def lams : Nat → Tm → Tm
  | 0, t => t
  | n + 1, t => .lam (lams n t)
theorem enc_lams : ∀ (n : Nat) (t : Tm), enc (lams n t) = List.replicate n (D.str "lam") ++ enc t
  | 0, t => rfl
  | n + 1, t => by simp only [lams, enc, List.replicate_succ, List.cons_append]; rw [enc_lams n t]
theorem flat_one {α : Type} (x : α) : ∀ n : Nat, (List.replicate n [x]).flatten = List.replicate n x
  | 0 => rfl
  | n + 1 => by rw [List.replicate_succ, List.flatten_cons, flat_one x n, List.replicate_succ]; rfl
def proj (i n : Nat) : Tm := lams n (.var (n - 1 - i))
structure GProj where
  i : Nat
  n : Nat
abbrev aProj (g : GProj) : List Sl := [.im (.int (g.i : Int)), .im (.int (g.n : Int))]
def sp__law_projection (K : PySem.W.Frag) (C : Addr) : Sp := spG K C 2 aProj (fun g => g.i < g.n ∧ g.n ≤ 1000) (fun g d => d = .tup (enc (proj g.i g.n)))
abbrev s__law_projection : Stmt := topS 73
abbrev n__law_projection : List Str := ["_law_index", "_law_count"]
theorem sc__law_projection : FnScope n__law_projection ["_law_index", "_law_count"] (defScope s__law_projection) := ⟨rfl, rfl, rfl, by decide +kernel, rfl, by decide +kernel, by decide +kernel⟩
-- calls: []; level 1; slots: 0:_law_index 1:_law_count
def t__law_projection (K : PySem.W.Frag) (C : Addr) : TS := tRet (tOp (rCatA K) (tOp (rRepA K) (tTup (tCons (tC (.str "lam")) (tNil))) (tVar 1)) (tTup (tCons (tOp (rSubI) (tOp (rSubI) (tVar 1) (tC (.int 1))) (tVar 0)) (tNil))))
theorem c__law_projection (K : PySem.W.Frag) (C : Addr) (g : GProj) (hp : g.i < g.n ∧ g.n ≤ 1000) (_ : (aProj g).length = 2) :
    CmD K C (t__law_projection K C) (aProj g ++ List.replicate (n__law_projection.length - 2) .un) (fun _ => (.non : D) = .tup (enc (proj g.i g.n))) (fun d => d = .tup (enc (proj g.i g.n))) no no := by
  obtain ⟨i, n⟩ := g
  have hp1 : i < n ∧ n ≤ 1000 := hp
  refine c_retV (v_op (v_op (v_tup (ds := [.str "lam"]) (a_consV e_str a_nil)) (e_var rfl) (o_rep (by simp) (by omega) (by omega) (by simp))) (v_tup (ds := [.int ((n : Int) - 1 - (i : Int))]) (a_consV (v_op (v_op (e_var rfl) e_int o_sub) (e_var rfl) o_sub) a_nil)) (o_cat (by simp; omega))) ?_
  rw [flat_one, Int.toNat_natCast]
  unfold proj
  rw [enc_lams]
  simp only [enc]
  rw [show (n : Int) - 1 - (i : Int) = ((n - 1 - i : Nat) : Int) by omega]
theorem ok__law_projection {P : Program} {w : World} {K : PySem.W.Frag} {mg : Str → Option Value} {base : Heap} {C aI f : Addr} {fd : FuncData} (X : Tx K mg C aI) (F : Fun K "_law_projection" "_law_projection" s__law_projection f fd) (hm : mg "_law_projection" = some (.ref f))  :
    Df P w K mg base 1 "_law_projection" ["_law_index", "_law_count"] (sp__law_projection K C) :=
  df_mk hm F.kp (F.binds fun _ _ _ _ _ _ us hl => match us, hl with | [_, _], _ => rfl) (F.ok sc__law_projection spG_len fun cdv A outer s H vs Q E hr h => ⟨t__law_projection K C, pss_one (ps_ret (pe_op op_catA (pe_op op_repA (pe_tup (pa_cons (pe_str) (pa_nil))) (pv 1)) (pe_tup (pa_cons (pe_op op_sub (pe_op op_sub (pv 1) (pe_int)) (pv 0)) (pa_nil))))), run_of (E := E) (c__law_projection K C) h⟩)
structure GBec where
  t : Tm
  as : List Tm
  due : Tm
abbrev aBec (g : GBec) : List Sl := [.im (.tup (enc g.t)), .im (.lst (dT g.as)), .im (.tup (enc g.due))]
abbrev pBec (g : GBec) (d : D) : Prop := d = dOB (leadsM 400 (apps g.t g.as) g.due)
def sp__law_becomes (K : PySem.W.Frag) (C : Addr) : Sp := spG K C 3 aBec (fun g => size (apps g.t g.as) < 900000) pBec
abbrev s__law_becomes : Stmt := topS 75
abbrev n__law_becomes : List Str := ["_law_term", "_law_rows", "_law_due"]
theorem sc__law_becomes : FnScope n__law_becomes ["_law_term", "_law_rows", "_law_due"] (defScope s__law_becomes) := ⟨rfl, rfl, rfl, by decide +kernel, rfl, by decide +kernel, by decide +kernel⟩
-- calls: ['_law_applied', '_law_leads']; level 6; slots: 0:_law_term 1:_law_rows 2:_law_due
def t__law_becomes (K : PySem.W.Frag) (C : Addr) : TS := tSeq (tIfS (tNot (tB (tIsi K (tVar 1) "list"))) (tRet (tC (.bl false))) (tNext)) (tRet (tCall (sp__law_leads K C) [] E0 (tCons (tCall (sp__law_applied K C) [] E0 (tCons (tVar 0) (tCons (tVar 1) (tNil)))) (tCons (tVar 2) (tNil)))))
theorem c__law_becomes (K : PySem.W.Frag) (C : Addr) (g : GBec) (hp : size (apps g.t g.as) < 900000) (_ : (aBec g).length = 3) :
    CmD K C (t__law_becomes K C) (aBec g ++ List.replicate (n__law_becomes.length - 3) .un) (fun _ => pBec g .non) (pBec g) no no := by
  obtain ⟨t, as, due⟩ := g
  have hp1 : size (apps t as) < 900000 := hp
  refine q_no (t_notV (t_bV (v_isiL (e_var rfl)))) (q_next ?_)
  exact c_ret (v_call (⟨apps t as, due⟩ : GLeads) (a_consV (v_call (⟨t, as⟩ : GApp) (a_consV (e_var rfl) (a_consV (e_var rfl) a_nil)) hp1) (a_consV (e_var rfl) a_nil)) hp1) fun d h => h
theorem ok__law_becomes {P : Program} {w : World} {K : PySem.W.Frag} {mg : Str → Option Value} {base : Heap} {C aI f : Addr} {fd : FuncData} (X : Tx K mg C aI) (F : Fun K "_law_becomes" "_law_becomes" s__law_becomes f fd) (hm : mg "_law_becomes" = some (.ref f)) (D__law_applied : Df P w K mg base 1 "_law_applied" ["_law_term", "_law_rows"] (sp__law_applied K C)) (D__law_leads : Df P w K mg base 5 "_law_leads" ["_law_term", "_law_due"] (sp__law_leads K C)) :
    Df P w K mg base 6 "_law_becomes" ["_law_term", "_law_rows", "_law_due"] (sp__law_becomes K C) :=
  df_mk hm F.kp (F.binds fun _ _ _ _ _ _ us hl => match us, hl with | [_, _, _], _ => rfl) (F.ok sc__law_becomes spG_len fun cdv A outer s H vs Q E hr h => ⟨t__law_becomes K C, pss_cons (ps_if (pt_not (pt_val (pe_callB call_isi (by rfl) X.isinstance (by decide +kernel) (pa_cons (pv 1) (pa_cons (pe_bltn (v := .ty "list") (by rfl) X.list (by decide +kernel) rfl) pa_nil))))) (pss_one (ps_ret (pe_bl))) (pss_nil)) (pss_one (ps_ret (pe_own D__law_leads (hr.mono (by decide)) (by rfl) (pa_cons (pe_own D__law_applied (hr.mono (by decide)) (by rfl) (pa_cons (pv 0) (pa_cons (pv 1) (pa_nil)))) (pa_cons (pv 2) (pa_nil)))))), run_of (E := E) (c__law_becomes K C) h⟩)
end Wk
end
section
set_option Elab.async false
set_option autoImplicit false
set_option linter.all false
set_option maxRecDepth 100000
set_option maxHeartbeats 4000000
/-! _law_shrink. -/
namespace Wk
open PySem L2 Dl Dx Lam
abbrev pShr (t : Tm) (d : D) : Prop := ∃ u : Tm, d = .tup (enc u) ∧ Etas t u ∧ en u = true ∧ size u ≤ size t
def sp__law_shrink (K : PySem.W.Frag) (C : Addr) : Sp := spG K C 1 (fun t : Tm => [.im (.tup (enc t))]) (fun t => size t < 1000000) pShr
abbrev s__law_shrink : Stmt := topS 69
abbrev n__law_shrink : List Str := ["_law_term", "_law_again", "_law_at", "_law_end_here", "_law_inner_here", "_law_depths_here", "_law_used", "_law_nodes", "_law_k", "_law_less"]
theorem sc__law_shrink : FnScope n__law_shrink ["_law_term"] (defScope s__law_shrink) := ⟨rfl, rfl, rfl, by decide +kernel, rfl, by decide +kernel, by decide +kernel⟩
-- calls: ['_law_depths', '_law_end']; level 2; slots: 0:_law_term 1:_law_again 2:_law_at 3:_law_end_here 4:_law_inner_here 5:_law_depths_here 6:_law_used 7:_law_nodes 8:_law_k 9:_law_less
def t__law_shrink (K : PySem.W.Frag) (C : Addr) : TS := tSeq (tAsg (tC (.bl true)) (gName 1)) (tSeq (tWhile (tB (tVar 1)) (tSeq (tAsg (tC (.bl false)) (gName 1)) (tFor (iRng1 (tCons (tOp (rSubI) (tCB (rLenS K) (tCons (tVar 0) (tNil))) (tC (.int 2))) (tNil))) (gName 2) (tIfS (tAnd (tNot (tB (tVar 1))) (tAnd (tTest (tOp (rEq) (tOp (rIx K) (tVar 0) (tVar 2)) (tC (.str "lam")))) (tTest (tOp (rEq) (tOp (rIx K) (tVar 0) (tOp (rAddI) (tVar 2) (tC (.int 1)))) (tC (.str "app")))))) (tSeq (tAsg (tCall (sp__law_end K C) [] E0 (tCons (tVar 0) (tCons (tOp (rAddI) (tVar 2) (tC (.int 2))) (tNil)))) (gName 3)) (tSeq (tAsg (tSl (rSlA K) (tVar 0) (tPart (tOp (rAddI) (tVar 2) (tC (.int 2)))) (tPart (tVar 3))) (gName 4)) (tSeq (tAsg (tCall (sp__law_depths K C) [] E0 (tCons (tVar 4) (tNil))) (gName 5)) (tSeq (tAsg (tCB (rAny K) (tCons (tLc (iRng1 (tCons (tCB (rLenS K) (tCons (tVar 4) (tNil))) (tNil))) (gName 8) (tYes) (tOp (rEq) (tOp (rIx K) (tVar 4) (tVar 8)) (tOp (rIx K) (tVar 5) (tVar 8))) [8]) (tNil))) (gName 6)) (tIfS (tAnd (tTest (tOp (rEq) (tOp (rIx K) (tVar 0) (tVar 3)) (tC (.int 0)))) (tNot (tB (tVar 6)))) (tSeq (tAsg (tLst (tNil)) (gName 7)) (tSeq (tFor (iRng1 (tCons (tCB (rLenS K) (tCons (tVar 4) (tNil))) (tNil))) (gName 8) (tSeq (tAsg (tAndV (tOp (rNe) (tOp (rIx K) (tVar 4) (tVar 8)) (tC (.str "app"))) (tAndV (tOp (rNe) (tOp (rIx K) (tVar 4) (tVar 8)) (tC (.str "lam"))) (tOp (rGtI) (tOp (rIx K) (tVar 4) (tVar 8)) (tOp (rIx K) (tVar 5) (tVar 8))))) (gName 9)) (tDrop (tBM K "list" (rAppend) (tVar 7) (tCons (tIf (tB (tVar 9)) (tOp (rSubI) (tOp (rIx K) (tVar 4) (tVar 8)) (tC (.int 1))) (tOp (rIx K) (tVar 4) (tVar 8))) (tNil)))))) (tSeq (tAsg (tOp (rCatA K) (tOp (rCatA K) (tSl (rSlA K) (tVar 0) (tNoPart) (tPart (tVar 2))) (tCB (rTupS K) (tCons (tVar 7) (tNil)))) (tSl (rSlA K) (tVar 0) (tPart (tOp (rAddI) (tVar 3) (tC (.int 1)))) (tNoPart))) (gName 0)) (tAsg (tC (.bl true)) (gName 1))))) (tNext)))))) (tNext))))) (tRet (tVar 0)))
theorem range_get {α : Type} (l : List α) (d : α) : (List.range l.length).map (fun k => (l[k]?).getD d) = l := by
  apply List.ext_getElem?
  intro i
  rw [List.getElem?_map]
  by_cases h : i < l.length
  · rw [List.getElem?_range h, List.getElem?_eq_getElem h]
    simp [h]
  · rw [List.getElem?_eq_none (by rw [List.length_range]; omega), List.getElem?_eq_none (by omega)]
    rfl
theorem rng_map (g : Nat → D) (n : Nat) : (rngD 0 n).map (fun d => match d with | .int k => g k.toNat | y => y) = (List.range n).map g := by
  unfold rngD
  rw [List.map_map]
  apply List.map_congr_left
  intro k _
  simp
structure InShr (u : Tm) (i : Nat) (u' : Tm) (ag : Bool) : Prop where
  no : ag = false → u' = u ∧ ∀ p, p < i → ∀ s, subAt u p = some s → need1 s = false
  yes : ag = true → Eta u u' ∧ size u' < size u
theorem c__law_shrink (K : PySem.W.Frag) (C : Addr) (t : Tm) (hp : size t < 1000000) (_ : ([.im (.tup (enc t))] : List Sl).length = 1) :
    CmD K C (t__law_shrink K C) ([.im (.tup (enc t))] ++ List.replicate (n__law_shrink.length - 1) .un) (fun _ => pShr t .non) (pShr t) no no := by
  refine q_set e_bl ?_
  refine q_while (fun m S1 => ∃ (u : Tm) (ag : Bool) (z2 z3 z4 z5 z6 z7 z8 z9 : Sl), Etas t u ∧ size u ≤ size t ∧ z8.own = false ∧ (ag = false → en u = true) ∧ m = size u + (if ag then 1 else 0) ∧
      S1 = [.im (.tup (enc u)), .im (.bl ag), z2, z3, z4, z5, z6, z7, z8, z9]) no (size t + 1) ⟨t, true, .un, .un, .un, .un, .un, .un, .un, .un, .refl t, Nat.le_refl _, rfl, (fun e => by cases e), rfl, rfl⟩ ?_ (fun _ h => h.elim)
  rintro m S1 ⟨u, ag, z2, z3, z4, z5, z6, z7, z8, z9, he, hs, h8, hn, rfl, rfl⟩
  refine ⟨_, t_bV (e_var rfl), fun hb => ?_, fun hb => c_retV (e_var rfl) ⟨u, rfl, he, hn hb.symm, hs⟩⟩
  subst hb
  have hl := enc_len u
  refine q_set e_bl ?_
  refine c_for (it_rng1 (v_op (v_cb (a_consV (e_var rfl) a_nil) k_lenT (ds := [.tup (enc u)])) e_int o_sub) (by rw [hl]; omega) (by rw [hl]; omega))
    (fun i S1 => ∃ (u' : Tm) (ag : Bool) (z2 z3 z4 z5 z6 z7 z8 z9 : Sl), InShr u i u' ag ∧ z8.own = false ∧ S1 = [.im (.tup (enc u')), .im (.bl ag), z2, z3, z4, z5, z6, z7, z8, z9])
    ⟨u, false, z2, z3, z4, z5, z6, z7, z8, z9, ⟨fun _ => ⟨rfl, fun p hp => by omega⟩, (fun e => by cases e)⟩, h8, rfl⟩ ?_ ?_
  · rintro i d S1 hi ⟨u', ag, y2, y3, y4, y5, y6, y7, y8, y9, hin, h8', rfl⟩
    obtain ⟨hi1, rfl⟩ := rng_at hi
    refine ⟨_, tg_name, ?_⟩
    cases ag with
    | true =>
      refine c_no (ts_is (t_andV (a := false) (b := false) (t_notV (a := true) (t_bV (e_var rfl))) fun e => by cases e) rfl) (c_next ⟨u', true, .im (.int (i : Int)), y3, y4, y5, y6, y7, y8, y9, ⟨(fun e => by cases e), hin.yes⟩, h8', rfl⟩)
    | false =>
      obtain ⟨eu, hno⟩ := hin.no rfl
      subst eu
      have hi2 : i < size u' := by rw [hl] at hi1; omega
      obtain ⟨s, hsub⟩ := subAt_some hi2
      obtain ⟨a, c, e1, e2, e3⟩ := subAt_enc hsub
      have keep : need1 s = false → InShr u' (i + 1) u' false := fun q => ⟨fun _ => ⟨rfl, fun p hp s' hs' => by
        by_cases hpi : p = i
        · subst hpi; rw [hsub] at hs'; cases hs'; exact q
        · exact hno p (by omega) s' hs'⟩, (fun e => by cases e)⟩
      cases s with
      | var n =>
        have g0 : atI (enc u') ((i : Nat) : Int) = some (.int (n : Int)) := by rw [e1, ← e2]; simp only [enc, List.append_assoc, List.cons_append, List.nil_append]; exact atI_mid rfl
        exact c_no (ts_is (t_andV (a := true) (b := false) (t_notV (a := false) (t_bV (e_var rfl))) fun _ => ts_is (t_andV (a := false) (b := false) (t_testV (v_op (v_op (e_var rfl) (e_var rfl) (o_ixT g0)) e_str o_eqIS)) fun e => by cases e) rfl) rfl)
          (c_next ⟨u', false, .im (.int (i : Int)), y3, y4, y5, y6, y7, y8, y9, keep rfl, h8', rfl⟩)
      | app f x =>
        have g0 : atI (enc u') ((i : Nat) : Int) = some (.str "app") := by rw [e1, ← e2]; simp only [enc, List.append_assoc, List.cons_append, List.nil_append]; exact atI_mid rfl
        exact c_no (ts_is (t_andV (a := true) (b := false) (t_notV (a := false) (t_bV (e_var rfl))) fun _ => ts_is (t_andV (a := false) (b := false) (t_testV (v_op (v_op (e_var rfl) (e_var rfl) (o_ixT g0)) e_str eq_al)) fun e => by cases e) rfl) rfl)
          (c_next ⟨u', false, .im (.int (i : Int)), y3, y4, y5, y6, y7, y8, y9, keep rfl, h8', rfl⟩)
      | lam b =>
        have g0 : atI (enc u') ((i : Nat) : Int) = some (.str "lam") := by rw [e1, ← e2]; simp only [enc, List.append_assoc, List.cons_append, List.nil_append]; exact atI_mid rfl
        cases b with
        | var n =>
          have g1 : atI (enc u') ((i : Nat) + 1 : Int) = some (.int (n : Int)) := by
            rw [e1, ← e2, show a ++ enc (.lam (.var n)) ++ c = (a ++ [.str "lam"]) ++ .int (n : Int) :: c by simp [enc]]
            exact atI_mid (by simp)
          exact c_no (ts_is (t_andV (a := true) (b := false) (t_notV (a := false) (t_bV (e_var rfl))) fun _ => ts_is (t_andV (a := true) (b := false) (t_testV (v_op (v_op (e_var rfl) (e_var rfl) (o_ixT g0)) e_str eq_ll)) fun _ => t_testV (v_op (v_op (e_var rfl) (v_op (e_var rfl) e_int o_add) (o_ixT g1)) e_str o_eqIS)) rfl) rfl)
            (c_next ⟨u', false, .im (.int (i : Int)), y3, y4, y5, y6, y7, y8, y9, keep rfl, h8', rfl⟩)
        | lam b2 =>
          have g1 : atI (enc u') ((i : Nat) + 1 : Int) = some (.str "lam") := by
            rw [e1, ← e2, show a ++ enc (.lam (.lam b2)) ++ c = (a ++ [.str "lam"]) ++ .str "lam" :: (enc b2 ++ c) by simp [enc]]
            exact atI_mid (by simp)
          exact c_no (ts_is (t_andV (a := true) (b := false) (t_notV (a := false) (t_bV (e_var rfl))) fun _ => ts_is (t_andV (a := true) (b := false) (t_testV (v_op (v_op (e_var rfl) (e_var rfl) (o_ixT g0)) e_str eq_ll)) fun _ => t_testV (v_op (v_op (e_var rfl) (v_op (e_var rfl) e_int o_add) (o_ixT g1)) e_str eq_la)) rfl) rfl)
            (c_next ⟨u', false, .im (.int (i : Int)), y3, y4, y5, y6, y7, y8, y9, keep rfl, h8', rfl⟩)
        | app f x =>
          have g1 : atI (enc u') ((i : Nat) + 1 : Int) = some (.str "app") := by
            rw [e1, ← e2, show a ++ enc (.lam (.app f x)) ++ c = (a ++ [.str "lam"]) ++ .str "app" :: (enc f ++ (enc x ++ c)) by simp [enc]]
            exact atI_mid (by simp)
          have hsz := subAt_lt hsub
          simp only [size] at hsz
          have hlf := enc_len f
          have hld := dep_len f 0
          have d1 : enc u' = (a ++ [.str "lam", .str "app"]) ++ enc f ++ (enc x ++ c) := by rw [e1]; simp [enc]
          have d2 : enc u' = (a ++ .str "lam" :: .str "app" :: enc f) ++ (enc x ++ c) := by rw [e1]; simp [enc]
          refine c_yes (ts_is (t_andV (a := true) (b := true) (t_notV (a := false) (t_bV (e_var rfl))) fun _ => ts_is (t_andV (a := true) (b := true) (t_testV (v_op (v_op (e_var rfl) (e_var rfl) (o_ixT g0)) e_str eq_ll)) fun _ => t_testV (v_op (v_op (e_var rfl) (v_op (e_var rfl) e_int o_add) (o_ixT g1)) e_str eq_aa)) rfl) rfl) ?_
          refine q_setE (v_call (⟨a ++ [.str "lam", .str "app"], f, enc x ++ c⟩ : GEnd) (a_is (a_consV (e_var rfl) (a_consV (v_op (e_var rfl) e_int o_add) a_nil)) (by simp only [aEnd]; rw [d1, ← e2]; simp)) trivial) ?_
          rintro d rfl
          have hend : (((a ++ [D.str "lam", .str "app"]).length + size f : Nat) : Int) = ((i + 2 + size f : Nat) : Int) := by rw [← e2]; simp
          rw [hend]
          refine q_set (v_is (v_slice (e_var rfl) (po_yes (v_op (e_var (i := 2) rfl) e_int o_add)) (po_yes (e_var (i := 3) rfl))) (by rw [cut_mid d1 (by rw [← e2]; simp) (by rw [← e2]; simp [hlf])])) ?_
          refine q_setE (v_call f (a_consV (e_var rfl) a_nil) (show size f < 1000000 by omega)) ?_
          rintro d rfl
          refine c_un (j := 8) ?_ (by intro s hs; cases hs; exact h8')
          refine q_set (v_cb (ds := [.lst (((enc f).zipWith ndU (dep 0 f)).map D.bl)]) (a_consV (v_is (v_lcs (fun d => match d with | .int k => (((((enc f).zipWith ndU (dep 0 f)).map D.bl)[k.toNat]?).getD .non) | y => y) (it_rng1 (v_cb (a_consV (e_var rfl) a_nil) k_lenT (ds := [.tup (enc f)])) (by rw [hlf]; omega) (by rw [hlf]; omega)) rfl (fun d hd => ?_) (by rw [rngD_len, hlf, Int.toNat_natCast]; omega)) ?_) a_nil) k_any) ?_
          · obtain ⟨k, hk⟩ := List.getElem?_of_mem hd
            obtain ⟨hk1, rfl⟩ := rng_at hk
            rw [hlf, Int.toNat_natCast] at hk1
            obtain ⟨y, w, f1, hy, f2, f3⟩ := enc_at hk1
            have q1 : ((((enc f).zipWith ndU (dep 0 f)).map D.bl)[((k : Nat) : Int).toNat]?).getD .non = .bl (ndU y w) := by
              rw [Int.toNat_natCast, List.getElem?_map, List.getElem?_zipWith, f1, f2]; rfl
            show VlD K C _ _ (((((enc f).zipWith ndU (dep 0 f)).map D.bl)[((k : Nat) : Int).toNat]?).getD .non)
            rw [q1]
            have gy := getN (n := ((k : Nat) : Int)) f1 rfl
            have gw := getN (n := ((k : Nat) : Int)) f3 rfl
            rcases hy with ⟨n, rfl⟩ | rfl | rfl
            · exact v_op (v_op (e_var rfl) (e_var rfl) (o_ixT gy)) (v_op (e_var rfl) (e_var rfl) (o_ixL gw)) o_eqII
            · exact v_op (v_op (e_var rfl) (e_var rfl) (o_ixT gy)) (v_op (e_var rfl) (e_var rfl) (o_ixL gw)) o_eqSI
            · exact v_op (v_op (e_var rfl) (e_var rfl) (o_ixT gy)) (v_op (e_var rfl) (e_var rfl) (o_ixL gw)) o_eqSI
          · rw [rng_map (fun k => ((((enc f).zipWith ndU (dep 0 f)).map D.bl)[k]?).getD .non)]
            have hzl : (((enc f).zipWith ndU (dep 0 f)).map D.bl).length = (((enc f).length : Nat) : Int).toNat := by rw [List.length_map, zip_len _ _ _ (by rw [hlf, hld]), Int.toNat_natCast]
            rw [← hzl, range_get]
          rw [any_zip]
          have gE : ∃ y r, enc x = y :: r ∧ isNode y ∧ ((∃ n : Nat, y = .int (n : Int) ∧ x = .var n ∧ r = []) ∨ ((y = .str "lam" ∨ y = .str "app") ∧ need0 (.app f x) = false)) := by
            cases x with
            | var n => exact ⟨.int (n : Int), [], rfl, .inl ⟨n, rfl⟩, .inl ⟨n, rfl, rfl, rfl⟩⟩
            | lam q => exact ⟨.str "lam", enc q, rfl, .inr (.inl rfl), .inr ⟨.inl rfl, rfl⟩⟩
            | app q r => exact ⟨.str "app", enc q ++ enc r, rfl, .inr (.inr rfl), .inr ⟨.inr rfl, rfl⟩⟩
          obtain ⟨y, r, ex, hy, hyc⟩ := gE
          have gy : atI (enc u') ((i + 2 + size f : Nat) : Int) = some y := by
            rw [d2, ex, List.cons_append]
            exact atI_mid (by rw [← e2]; simp [hlf]; omega)
          have tail : need1 (.lam (.app f x)) = false → ∃ (u'' : Tm) (ag : Bool) (z2 z3 z4 z5 z6 z7 z8 z9 : Sl), InShr u' (i + 1) u'' ag ∧ z8.own = false ∧ [.im (.tup (enc u')), .im (.bl false), .im (.int (i : Int)), .im (.int ((i + 2 + size f : Nat) : Int)), .im (.tup (enc f)), .im (.lst (dI (dep 0 f))), .im (.bl (occ 0 f)), y7, .un, y9] = [.im (.tup (enc u'')), .im (.bl ag), z2, z3, z4, z5, z6, z7, z8, z9] := fun pA =>
            ⟨u', false, .im (.int (i : Int)), .im (.int ((i + 2 + size f : Nat) : Int)), .im (.tup (enc f)), .im (.lst (dI (dep 0 f))), .im (.bl (occ 0 f)), y7, .un, y9, keep pA, rfl, rfl⟩
          rcases hyc with ⟨n, rfl, rfl, rfl⟩ | ⟨hyc, hq⟩
          · refine c_if (t_andV (t_testV (v_op (v_op (e_var rfl) (e_var rfl) (o_ixT gy)) e_int o_eqII)) fun _ => t_notV (t_bV (e_var rfl))) (fun hb => ?_) (fun hb => c_next (tail ?_))
            · have hb2 : decide ((n : Int) = 0) = true ∧ (!occ 0 f) = true := Bool.and_eq_true_iff.mp hb.symm
              have hn0 : n = 0 := by have := of_decide_eq_true hb2.1; omega
              have ho : occ 0 f = false := by simpa using hb2.2
              subst hn0
              refine q_lst0 ?_
              refine q_for (it_rng1 (v_cb (a_consV (e_var rfl) a_nil) k_lenT (ds := [.tup (enc f)])) (by rw [hlf]; omega) (by rw [hlf]; omega))
                (fun k S1 => ∃ (w8 w9 : Sl), w8.own = false ∧ S1 = [.im (.tup (enc u')), .im (.bl false), .im (.int (i : Int)), .im (.int ((i + 2 + size f : Nat) : Int)), .im (.tup (enc f)), .im (.lst (dI (dep 0 f))), .im (.bl (occ 0 f)), .ml (((enc f).zipWith ndW (dep 0 f)).take k), w8, w9])
                no ⟨.un, y9, rfl, by simp <;> rfl⟩ ?_ ?_ (fun _ h => h.elim)
              · rintro k d S2 hk ⟨w8, w9, hw, rfl⟩
                obtain ⟨hk1, rfl⟩ := rng_at hk
                rw [hlf, Int.toNat_natCast] at hk1
                obtain ⟨y, w, f1, hy, f2, f3⟩ := enc_at hk1
                have tz := take_zip ndW f1 f2
                have gy := getN (n := ((k : Nat) : Int)) f1 rfl
                have gw := getN (n := ((k : Nat) : Int)) f3 rfl
                have hacc : (((enc f).zipWith ndW (dep 0 f)).take k).length < 16777216 := by
                  rw [List.length_take, zip_len _ _ _ (by rw [hlf, hld]), hlf]; omega
                refine ⟨_, tg_name, ?_⟩
                rcases hy with ⟨n, rfl⟩ | rfl | rfl
                · refine q_set (e_andV (a := true) (z := decide ((w : Int) < (n : Int))) (v_op (v_op (e_var rfl) (e_var rfl) (o_ixT gy)) e_str o_neIS) (fun _ => e_andV (a := true) (v_op (v_op (e_var rfl) (e_var rfl) (o_ixT gy)) e_str o_neIS) (fun _ => v_op (v_op (e_var rfl) (e_var rfl) (o_ixT gy)) (v_op (e_var rfl) (e_var rfl) (o_ixL gw)) o_gt) (fun e => by cases e)) (fun e => by cases e)) ?_
                  refine c_app (d := ndW (.int (n : Int)) w) rfl (e_if (t_bV (e_var rfl)) (fun hb3 => ?_) (fun hb3 => ?_)) hacc ⟨.im (.int (k : Int)), .im (.bl (decide ((w : Int) < (n : Int)))), rfl, ?_⟩
                  · have h5 : (w : Int) < (n : Int) := of_decide_eq_true hb3.symm
                    refine v_is (v_op (v_op (e_var rfl) (e_var rfl) (o_ixT gy)) e_int o_sub) ?_
                    simp only [ndW]
                    rw [if_pos h5]
                  · have h5 : ¬ (w : Int) < (n : Int) := of_decide_eq_false hb3.symm
                    refine v_is (v_op (e_var rfl) (e_var rfl) (o_ixT gy)) ?_
                    simp only [ndW]
                    rw [if_neg h5]
                  · rw [tz]; rfl
                · refine q_set (e_andV (a := true) (z := false) (v_op (v_op (e_var rfl) (e_var rfl) (o_ixT gy)) e_str ne_la) (fun _ => e_andV (a := false) (v_op (v_op (e_var rfl) (e_var rfl) (o_ixT gy)) e_str ne_ll) (fun e => by cases e) (fun _ => rfl)) (fun _ => rfl)) ?_
                  refine c_app (d := .str "lam") rfl (e_if (t_bV (e_var rfl)) (fun hb3 => by cases hb3) (fun hb3 => v_op (e_var rfl) (e_var rfl) (o_ixT gy))) hacc ⟨.im (.int (k : Int)), .im (.bl false), rfl, ?_⟩
                  rw [tz]; rfl
                · refine q_set (e_andV (a := false) (z := false) (v_op (v_op (e_var rfl) (e_var rfl) (o_ixT gy)) e_str ne_aa) (fun e => by cases e) (fun _ => rfl)) ?_
                  refine c_app (d := .str "app") rfl (e_if (t_bV (e_var rfl)) (fun hb3 => by cases hb3) (fun hb3 => v_op (e_var rfl) (e_var rfl) (o_ixT gy))) hacc ⟨.im (.int (k : Int)), .im (.bl false), rfl, ?_⟩
                  rw [tz]; rfl
              · rintro S2 ⟨w8, w9, hw, rfl⟩
                have ew : ((enc f).zipWith ndW (dep 0 f)).take (rngD 0 ((enc f).length : Int).toNat).length = enc (low 0 f) := by
                  rw [rngD_len, Int.toNat_natCast, List.take_of_length_le (by rw [zip_len _ _ _ (by rw [hlf, hld])]; omega), ndW_map]
                rw [ew]
                have en2 : enc (repl u' i (low 0 f)) = a ++ enc (low 0 f) ++ c := e3 _
                have hlow : (enc (low 0 f)).length = size f := by rw [enc_len, size_low]
                have hcl : a.length + (size f + 3) + c.length = size u' := by
                  have := congrArg List.length e1
                  simp only [List.length_append, enc_len, size] at this
                  omega
                have sA : cutD (enc u') none (some ((i : Nat) : Int)) = a := cut_pre (c := enc (.lam (.app f (.var 0))) ++ c) (by rw [e1]; simp) (by rw [e2])
                have sC : cutD (enc u') (some (((i + 2 + size f : Nat) : Int) + 1)) none = c := cut_suf (a := a ++ enc (.lam (.app f (.var 0)))) e1 (by rw [List.length_append, enc_len, e2]; simp only [size]; omega)
                refine c_freeze (j := 7) rfl ?_
                refine q_set (d := .tup (enc (repl u' i (low 0 f)))) (v_is (v_op (v_op (v_is (v_slice (e_var rfl) po_no (po_yes (e_var (i := 2) rfl))) (by rw [sA])) (v_cb (a_consV (e_var rfl) a_nil) k_tupL (ds := [.lst (enc (low 0 f))])) (o_cat (by rw [hlow]; omega))) (v_is (v_slice (e_var rfl) (po_yes (v_op (e_var (i := 3) rfl) e_int o_add)) po_no) (by rw [sC])) (o_cat (by rw [List.length_append, hlow]; omega))) (by rw [en2])) ?_
                refine c_asgV e_bl ⟨repl u' i (low 0 f), true, .im (.int (i : Int)), .im (.int ((i + 2 + size f : Nat) : Int)), .im (.tup (enc f)), .im (.lst (dI (dep 0 f))), .im (.bl (occ 0 f)), .im (.lst (enc (low 0 f))), w8, w9, ⟨(fun e => by cases e), fun _ => ⟨repl_eta hsub (eta_one ho), ?_⟩⟩, hw, rfl⟩
                have := size_repl (u := low 0 f) hsub
                rw [size_low] at this
                simp only [size] at this
                omega
            · have hb2 : (decide ((n : Int) = 0) && !occ 0 f) = false := hb.symm
              cases n with
              | succ n => rfl
              | zero =>
                simp only [Bool.and_eq_false_iff] at hb2
                rcases hb2 with hb2 | hb2
                · simp at hb2
                · simp only [need1, need0]; exact hb2
          · refine c_no (ts_is (t_andV (a := false) (b := false) ?_ fun e => by cases e) rfl) (c_next (tail hq))
            rcases hyc with rfl | rfl
            · exact t_testV (v_op (v_op (e_var rfl) (e_var rfl) (o_ixT gy)) e_int o_eqSI)
            · exact t_testV (v_op (v_op (e_var rfl) (e_var rfl) (o_ixT gy)) e_int o_eqSI)
  · rintro S1 ⟨u', ag, y2, y3, y4, y5, y6, y7, y8, y9, hin, h8', rfl⟩
    cases ag with
    | true =>
      obtain ⟨h1, h2⟩ := hin.yes rfl
      exact ⟨size u' + 1, by simp; omega, u', true, y2, y3, y4, y5, y6, y7, y8, y9, he.trans (.one h1), by omega, h8', (fun e => by cases e), rfl, rfl⟩
    | false =>
      obtain ⟨h1, h2⟩ := hin.no rfl
      subst h1
      refine ⟨size u', by simp, u', false, y2, y3, y4, y5, y6, y7, y8, y9, he, hs, h8', fun _ => en_all fun p s hsub => ?_, rfl, rfl⟩
      by_cases hpp : p < (rngD 0 (((enc u').length : Int) - 2).toNat).length
      · exact h2 p hpp s hsub
      · cases hnd : need1 s with
        | false => rfl
        | true =>
          obtain ⟨q, rfl, _⟩ := need1_size hnd
          have hsz := subAt_lt hsub
          simp only [size] at hsz
          have := size_pos q
          rw [rngD_len, hl] at hpp
          omega
theorem ok__law_shrink {P : Program} {w : World} {K : PySem.W.Frag} {mg : Str → Option Value} {base : Heap} {C aI f : Addr} {fd : FuncData} (X : Tx K mg C aI) (F : Fun K "_law_shrink" "_law_shrink" s__law_shrink f fd) (hm : mg "_law_shrink" = some (.ref f)) (D__law_depths : Df P w K mg base 1 "_law_depths" ["_law_term"] (sp__law_depths K C)) (D__law_end : Df P w K mg base 1 "_law_end" ["_law_term", "_law_at"] (sp__law_end K C)) :
    Df P w K mg base 2 "_law_shrink" ["_law_term"] (sp__law_shrink K C) :=
  df_mk hm F.kp (F.binds fun _ _ _ _ _ _ us hl => match us, hl with | [_], _ => rfl) (F.ok sc__law_shrink spG_len fun cdv A outer s H vs Q E hr h => ⟨t__law_shrink K C, pss_cons (ps_set (i := 1) sc__law_shrink.nd rfl (by first | exact Or.inl rfl | exact Or.inr rfl) (pe_bl)) (pss_cons (ps_while PassesOwn.never (pt_val (pv 1)) (pss_cons (ps_set (i := 1) sc__law_shrink.nd rfl (by first | exact Or.inl rfl | exact Or.inr rfl) (pe_bl)) (pss_one (ps_for PassesOwn.never rfl (pi_range1 (by rfl) X.range (pa_cons (pe_op op_sub (pe_callB call_len_seq (by rfl) X.len (by decide +kernel) (pa_cons (pv 0) (pa_nil))) (pe_int)) (pa_nil))) (pg_name (i := 2) sc__law_shrink.nd rfl (by first | exact Or.inl rfl | exact Or.inr rfl)) (pss_one (ps_if (PW.pt (pw_and (pt_not (pt_val (pv 1))) (pw_and (pt_cmpR (op_eq) (pe_ix ix_seq (pv 0) (pv 2) (fun _ _ => rfl)) (pe_str) (nomark _)) (pw_and1 (pt_cmpR (op_eq) (pe_ix ix_seq (pv 0) (pe_op op_add (pv 2) (pe_int)) (fun _ _ => rfl)) (pe_str) (nomark _)))))) (pss_cons (ps_set (i := 3) sc__law_shrink.nd rfl (by first | exact Or.inl rfl | exact Or.inr rfl) (pe_own D__law_end (hr.mono (by decide)) (by rfl) (pa_cons (pv 0) (pa_cons (pe_op op_add (pv 2) (pe_int)) (pa_nil))))) (pss_cons (ps_set (i := 4) sc__law_shrink.nd rfl (by first | exact Or.inl rfl | exact Or.inr rfl) (pe_slice sl_tupA (pv 0) (po_some (pe_op op_add (pv 2) (pe_int))) (po_some (pv 3)))) (pss_cons (ps_set (i := 5) sc__law_shrink.nd rfl (by first | exact Or.inl rfl | exact Or.inr rfl) (pe_own D__law_depths (hr.mono (by decide)) (by rfl) (pa_cons (pv 4) (pa_nil)))) (pss_cons (ps_set (i := 6) sc__law_shrink.nd rfl (by first | exact Or.inl rfl | exact Or.inr rfl) (pe_callB (cr_any rfl) (by rfl) X.any (by decide +kernel) (pa_cons (pe_lc (own := [("_law_k", 8)]) (g := gName 8) rfl sc__law_shrink.nd (pi_range1 (by rfl) X.range (pa_cons (pe_callB call_len_seq (by rfl) X.len (by decide +kernel) (pa_cons (pv 4) (pa_nil))) (pa_nil))) (blkOk_by (own := [("_law_k", 8)]) (N := n__law_shrink) (sc := defScope s__law_shrink) (by decide +kernel)) (fun _ _ _ _ _ => pg_name (i := 8) sc__law_shrink.nd rfl (by first | exact Or.inl rfl | exact Or.inr rfl)) (fun _ _ _ _ _ => pts_nil) (fun _ _ _ _ _ => pe_cmpR (op_eq) (pe_ix ix_seq (pv 4) (pv 8) (fun _ _ => rfl)) (pe_ix ix_seq (pv 5) (pv 8) (fun _ _ => rfl)) (nomark _))) (pa_nil)))) (pss_one (ps_if (PW.pt (pw_and (pt_cmpR (op_eq) (pe_ix ix_seq (pv 0) (pv 3) (fun _ _ => rfl)) (pe_int) (nomark _)) (pw_and1 (pt_not (pt_val (pv 6)))))) (pss_cons (ps_set (i := 7) sc__law_shrink.nd rfl (by first | exact Or.inl rfl | exact Or.inr rfl) (pe_lst (pa_nil))) (pss_cons (ps_for PassesOwn.never rfl (pi_range1 (by rfl) X.range (pa_cons (pe_callB call_len_seq (by rfl) X.len (by decide +kernel) (pa_cons (pv 4) (pa_nil))) (pa_nil))) (pg_name (i := 8) sc__law_shrink.nd rfl (by first | exact Or.inl rfl | exact Or.inr rfl)) (pss_cons (ps_set (i := 9) sc__law_shrink.nd rfl (by first | exact Or.inl rfl | exact Or.inr rfl) (pe_and (pe_cmpR (op_ne) (pe_ix ix_seq (pv 4) (pv 8) (fun _ _ => rfl)) (pe_str) (nomark _)) (pe_and (pe_cmpR (op_ne) (pe_ix ix_seq (pv 4) (pv 8) (fun _ _ => rfl)) (pe_str) (nomark _)) (pe_one (pe_cmpR (op_gt) (pe_ix ix_seq (pv 4) (pv 8) (fun _ _ => rfl)) (pe_ix ix_seq (pv 5) (pv 8) (fun _ _ => rfl)) (nomark _)))))) (pss_one (ps_expr (pe_bm PySem.F.plainAttrs_list PySem.F.slot_list_append PySem.F.type_list_append mt_append (pv 7) (pa_cons (pe_ifExp (pt_val (pv 9)) (pe_op op_sub (pe_ix ix_seq (pv 4) (pv 8) (fun _ _ => rfl)) (pe_int)) (pe_ix ix_seq (pv 4) (pv 8) (fun _ _ => rfl))) (pa_nil))))))) (pss_cons (ps_set (i := 0) sc__law_shrink.nd rfl (by first | exact Or.inl rfl | exact Or.inr rfl) (pe_op op_catA (pe_op op_catA (pe_slice sl_tupA (pv 0) (po_none) (po_some (pv 2))) (pe_callTy call_tuple_of (by rfl) X.tuple (by decide +kernel) (pa_cons (pv 7) (pa_nil)))) (pe_slice sl_tupA (pv 0) (po_some (pe_op op_add (pv 3) (pe_int))) (po_none)))) (pss_one (ps_set (i := 1) sc__law_shrink.nd rfl (by first | exact Or.inl rfl | exact Or.inr rfl) (pe_bl)))))) (pss_nil))))))) (pss_nil))))))) (pss_one (ps_ret (pv 0)))), run_of (E := E) (c__law_shrink K C) h⟩)
end Wk
end
section
set_option Elab.async false
set_option autoImplicit false
set_option linter.all false
set_option maxRecDepth 100000
set_option maxHeartbeats 4000000
/-! uses, placed_nodes, is_redex, redexes, is_needless, needless, is_fully_normal, free. -/
namespace Wk
open PySem L2 Dl Dx Lam
/-! ### uses -/
def occs : List Tm → List Nat → Bool
  | t :: ts, w :: ws => occ w t || occs ts ws
  | _, _ => false
def sp_uses (K : PySem.W.Frag) (C : Addr) : Sp := spG K C 1 (fun t : Tm => [.im (.tup (enc t))]) (fun t => size t < 1000000) (fun t d => d = .bl (occ 0 t))
abbrev s_uses : Stmt := topS 24
abbrev n_uses : List Str := ["nodes", "waiting", "node", "depth"]
theorem sc_uses : FnScope n_uses ["nodes"] (defScope s_uses) := ⟨rfl, rfl, rfl, by decide +kernel, rfl, by decide +kernel, by decide +kernel⟩
-- calls: []; level 1; slots: 0:nodes 1:waiting 2:node 3:depth
def t_uses (K : PySem.W.Frag) (C : Addr) : TS := tSeq (tAsg (tLst (tCons (tC (.int 0)) (tNil))) (gName 1)) (tSeq (tFor (iTup K (tVar 0)) (gName 2) (tSeq (tAsg (tBM0 K "list" rPop (tVar 1)) (gName 3)) (tIfS (tTest (tOp (rEq) (tVar 2) (tC (.str "app")))) (tSeq (tDrop (tBM K "list" (rAppend) (tVar 1) (tCons (tVar 3) (tNil)))) (tDrop (tBM K "list" (rAppend) (tVar 1) (tCons (tVar 3) (tNil))))) (tIfS (tB (tIsi K (tVar 2) "int")) (tIfS (tTest (tOp (rEq) (tVar 2) (tVar 3))) (tRet (tC (.bl true))) (tNext)) (tDrop (tBM K "list" (rAppend) (tVar 1) (tCons (tOp (rAddI) (tVar 3) (tC (.int 1))) (tNil)))))))) (tRet (tC (.bl false))))
theorem c_uses (K : PySem.W.Frag) (C : Addr) (t : Tm) (hs : size t < 1000000) (_ : ([.im (.tup (enc t))] : List Sl).length = 1) :
    CmD K C (t_uses K C) ([.im (.tup (enc t))] ++ List.replicate (n_uses.length - 1) .un) (fun _ => (.non : D) = .bl (occ 0 t)) (fun d => d = .bl (occ 0 t)) no no := by
  refine q_lst (ds := [.int 0]) (a_consV e_int a_nil) ?_
  refine q_forR (it_tup (e_var rfl)) (fun r S1 => ∃ ts ws acc z1 z2, InvD (dep 0 t) (size t) r ts ws acc ∧ occs ts ws = occ 0 t ∧ S1 = [.im (.tup (enc t)), .ml (wI ws), z1, z2]) no ⟨[t], [0], [], _, _, .start t, by simp [occs], rfl⟩ ?_ ?_ (fun _ h => h.elim)
  · rintro d r S1 ⟨ts, ws, acc, z1, z2, hi, ho, rfl⟩
    refine ⟨_, tg_name, ?_⟩
    have hb := deps_bound hi
    have hn := hi.n
    obtain ⟨w, ws', rfl, ⟨v, us, rfl, rfl, h⟩ | ⟨b, us, rfl, rfl, h⟩ | ⟨f, x, us, rfl, rfl, h⟩⟩ := hi.cons
    · refine q_pop (d := .int (w : Int)) (ds := wI ws') (by rw [wI_cons]; rfl) ?_
      refine c_no (t_testV (v_op (e_var rfl) e_str o_eqIS)) (c_yes (t_bV (v_isiI (e_var rfl))) (c_if (t_testV (v_op (e_var rfl) (e_var rfl) o_eqII)) (fun hb => ?_) (fun hb => ?_)))
      · have hv : v = w := by have := of_decide_eq_true hb.symm; omega
        subst hv
        refine c_retV e_bl ?_
        rw [← ho]
        simp [occs, occ]
      · have hv : ¬ v = w := fun e => by subst e; simp at hb
        refine c_next ⟨us, ws', _, .im (.int (v : Int)), .im (.int (w : Int)), h, ?_, rfl⟩
        rw [← ho]
        simp only [occs, occ]
        have : (v == w) = false := by simpa using hv
        rw [this, Bool.false_or]
    · refine q_pop (d := .int (w : Int)) (ds := wI ws') (by rw [wI_cons]; rfl) ?_
      refine c_no (t_testV (v_op (e_var rfl) e_str eq_la)) (c_no (t_bV (v_isiS (e_var rfl))) (c_app rfl (v_op (e_var rfl) e_int o_add) (by simp at hb; simp; omega) ⟨_, _, _, .im (.str "lam"), .im (.int (w : Int)), h, ?_, ?_⟩))
      · rw [← ho]; simp only [occs, occ]
      · simp only [wI_cons, tsn]; rfl
    · refine q_pop (d := .int (w : Int)) (ds := wI ws') (by rw [wI_cons]; rfl) ?_
      refine c_yes (t_testV (v_op (e_var rfl) e_str eq_aa)) (q_app rfl (e_var rfl) (by simp at hb; simp; omega) (c_app rfl (e_var rfl) (by simp at hb; simp; omega) ⟨_, _, _, .im (.str "app"), .im (.int (w : Int)), h, ?_, ?_⟩))
      · rw [← ho]; simp only [occs, occ, Bool.or_assoc]
      · simp only [wI_cons]; rfl
  · rintro S1 ⟨ts, ws, acc, z1, z2, hi, ho, rfl⟩
    refine c_retV e_bl ?_
    have := encs_nil hi.r
    subst this
    rw [← ho]
    rfl
theorem ok_uses {P : Program} {w : World} {K : PySem.W.Frag} {mg : Str → Option Value} {base : Heap} {C aI f : Addr} {fd : FuncData} (X : Tx K mg C aI) (F : Fun K "uses" "uses" s_uses f fd) (hm : mg "uses" = some (.ref f))  :
    Df P w K mg base 1 "uses" ["nodes"] (sp_uses K C) :=
  df_mk hm F.kp (F.binds fun _ _ _ _ _ _ us hl => match us, hl with | [_], _ => rfl) (F.ok sc_uses spG_len fun cdv A outer s H vs Q E hr h => ⟨t_uses K C, pss_cons (ps_set (i := 1) sc_uses.nd rfl (by first | exact Or.inl rfl | exact Or.inr rfl) (pe_lst (pa_cons (pe_int) (pa_nil)))) (pss_cons (ps_for PassesOwn.never rfl (pi_tup (pv 0)) (pg_name (i := 2) sc_uses.nd rfl (by first | exact Or.inl rfl | exact Or.inr rfl)) (pss_cons (ps_set (i := 3) sc_uses.nd rfl (by first | exact Or.inl rfl | exact Or.inr rfl) (pe_bm0 PySem.F.plainAttrs_list PySem.F.slot_list_pop PySem.F.type_list_pop mt_pop (pv 1))) (pss_one (ps_if (pt_cmpR (op_eq) (pv 2) (pe_str) (nomark _)) (pss_cons (ps_expr (pe_bm PySem.F.plainAttrs_list PySem.F.slot_list_append PySem.F.type_list_append mt_append (pv 1) (pa_cons (pv 3) (pa_nil)))) (pss_one (ps_expr (pe_bm PySem.F.plainAttrs_list PySem.F.slot_list_append PySem.F.type_list_append mt_append (pv 1) (pa_cons (pv 3) (pa_nil)))))) (pss_one (ps_if (pt_val (pe_callB call_isi (by rfl) X.isinstance (by decide +kernel) (pa_cons (pv 2) (pa_cons (pe_bltn (v := .ty "int") (by rfl) X.int (by decide +kernel) rfl) pa_nil)))) (pss_one (ps_if (pt_cmpR (op_eq) (pv 2) (pv 3) (nomark _)) (pss_one (ps_ret (pe_bl))) (pss_nil))) (pss_one (ps_expr (pe_bm PySem.F.plainAttrs_list PySem.F.slot_list_append PySem.F.type_list_append mt_append (pv 1) (pa_cons (pe_op op_add (pv 3) (pe_int)) (pa_nil))))))))))) (pss_one (ps_ret (pe_bl)))), run_of (E := E) (c_uses K C) h⟩)
/-! ### placed_nodes -/
def pl : Str → Tm → List Str
  | p, .var _ => [p]
  | p, .lam b => p :: pl (p ++ "b") b
  | p, .app f x => p :: (pl (p ++ "f") f ++ pl (p ++ "a") x)
theorem pl_len : ∀ (t : Tm) (p : Str), (pl p t).length = size t
  | .var n, p => rfl
  | .lam b, p => by simp only [pl, List.length_cons, size, pl_len b]
  | .app f x, p => by simp only [pl, List.length_cons, List.length_append, size, pl_len f, pl_len x]
def pls : List Tm → List Str → List Str
  | t :: ts, w :: ws => pl w t ++ pls ts ws
  | _, _ => []
abbrev dS (ns : List Str) : List D := ns.map D.str
abbrev wS (ws : List Str) : List D := dS ws.reverse
theorem wS_cons (w : Str) (ws : List Str) : wS (w :: ws) = wS ws ++ [.str w] := by simp [wS, dS]
theorem dS_snoc (ns : List Str) (w : Str) : dS (ns ++ [w]) = dS ns ++ [.str w] := by simp [dS]
theorem dS_len (ns : List Str) : (dS ns).length = ns.length := by simp
theorem slen (a : Str) (b : Str) (hb : b.length = 1) : (a ++ b).length = a.length + 1 := by rw [PySem.Str.length_append, hb]
theorem l1a : ("a" : Str).length = 1 := by decide +kernel
theorem l1b : ("b" : Str).length = 1 := by decide +kernel
theorem l1f : ("f" : Str).length = 1 := by decide +kernel
structure InvP (all : List Str) (n : Nat) (r : List D) (ts : List Tm) (ws acc : List Str) : Prop where
  r : r = encs ts
  l : ws.length = ts.length
  a : acc ++ pls ts ws = all
  n : acc.length + sizes ts = n
  k : ∀ w ∈ ws, w.length ≤ acc.length
theorem InvP.start (t : Tm) : InvP (pl "" t) (size t) (enc t) [t] [""] [] := ⟨by simp [encs], rfl, by simp [pls], by simp [sizes], by intro w hw; simp only [List.mem_singleton] at hw; subst hw; decide +kernel⟩
theorem InvP.cons {all : List Str} {n : Nat} {d : D} {r : List D} {ts : List Tm} {ws acc : List Str} (h : InvP all n (d :: r) ts ws acc) : ∃ w ws', ws = w :: ws' ∧ w.length ≤ acc.length ∧
    ((∃ v us, ts = .var v :: us ∧ d = .int (v : Int) ∧ InvP all n r us ws' (acc ++ [w])) ∨ (∃ b us, ts = .lam b :: us ∧ d = .str "lam" ∧ InvP all n r (b :: us) ((w ++ "b") :: ws') (acc ++ [w])) ∨
      (∃ f x us, ts = .app f x :: us ∧ d = .str "app" ∧ InvP all n r (f :: x :: us) ((w ++ "f") :: (w ++ "a") :: ws') (acc ++ [w]))) := by
  obtain ⟨h1, h2, h3, h4, h5⟩ := h
  cases ts with
  | nil => simp [encs] at h1
  | cons t us =>
    cases ws with
    | nil => simp at h2
    | cons w ws' =>
      have hw := h5 w List.mem_cons_self
      have hk : ∀ x ∈ ws', x.length ≤ (acc ++ [w]).length := fun x hx => by
        have := h5 x (List.mem_cons_of_mem _ hx)
        rw [List.length_append]; omega
      have hk2 : ∀ b : Str, b.length = 1 → (w ++ b).length ≤ (acc ++ [w]).length := fun b hb => by
        rw [slen w b hb, List.length_append, List.length_singleton]; omega
      refine ⟨w, ws', rfl, hw, ?_⟩
      rw [encs_cons] at h1
      rw [sizes_cons] at h4
      simp only [List.length_cons, Nat.add_right_cancel_iff] at h2
      cases t with
      | var v =>
        simp only [enc, List.cons_append, List.nil_append, List.cons.injEq] at h1
        refine .inl ⟨v, us, rfl, h1.1, h1.2, h2, ?_, ?_, hk⟩
        · rw [← h3]; simp [pls, pl]
        · simp only [size] at h4; simp; omega
      | lam b =>
        simp only [enc, List.cons_append, List.nil_append, List.cons.injEq] at h1
        refine .inr (.inl ⟨b, us, rfl, h1.1, by rw [encs_cons]; exact h1.2, by simp [h2], ?_, ?_, ?_⟩)
        · rw [← h3]; simp [pls, pl]
        · rw [sizes_cons]; simp only [size] at h4; simp; omega
        · intro x hx
          rcases List.mem_cons.mp hx with rfl | hx
          · exact hk2 _ l1b
          · exact hk x hx
      | app f x =>
        simp only [enc, List.cons_append, List.nil_append, List.cons.injEq] at h1
        refine .inr (.inr ⟨f, x, us, rfl, h1.1, by rw [encs_cons, encs_cons, ← List.append_assoc]; exact h1.2, by simp [h2], ?_, ?_, ?_⟩)
        · rw [← h3]; simp [pls, pl]
        · rw [sizes_cons, sizes_cons]; simp only [size] at h4; simp; omega
        · intro x hx
          rcases List.mem_cons.mp hx with rfl | hx
          · exact hk2 _ l1f
          · rcases List.mem_cons.mp hx with rfl | hx
            · exact hk2 _ l1a
            · exact hk x hx
theorem InvP.done {all : List Str} {n : Nat} {ts : List Tm} {ws acc : List Str} (h : InvP all n [] ts ws acc) : acc = all := by
  have e := encs_nil h.r
  subst e
  rw [← h.a]
  simp [pls]
theorem pls_bound {all : List Str} {n : Nat} {r : List D} {ts : List Tm} {ws acc : List Str} (h : InvP all n r ts ws acc) : ws.length + acc.length ≤ n := by
  have a : ∀ us : List Tm, us.length ≤ sizes us := fun us => by
    induction us with
    | nil => simp [sizes]
    | cons u us ih => rw [sizes_cons, List.length_cons]; have := size_pos u; omega
  have := a ts
  have h2 := h.l
  have h4 := h.n
  omega
def sp_placed_nodes (K : PySem.W.Frag) (C : Addr) : Sp := spG K C 1 (fun t : Tm => [.im (.tup (enc t))]) (fun t => size t < 1000000) (fun t d => d = .lst (dS (pl "" t)))
abbrev s_placed_nodes : Stmt := topS 15
abbrev n_placed_nodes : List Str := ["nodes", "found", "waiting", "node", "place"]
theorem sc_placed_nodes : FnScope n_placed_nodes ["nodes"] (defScope s_placed_nodes) := ⟨rfl, rfl, rfl, by decide +kernel, rfl, by decide +kernel, by decide +kernel⟩
-- calls: []; level 1; slots: 0:nodes 1:found 2:waiting 3:node 4:place
def t_placed_nodes (K : PySem.W.Frag) (C : Addr) : TS := tSeq (tAsg (tLst (tNil)) (gName 1)) (tSeq (tAsg (tLst (tCons (tC (.str "")) (tNil))) (gName 2)) (tSeq (tFor (iTup K (tVar 0)) (gName 3) (tSeq (tAsg (tBM0 K "list" rPop (tVar 2)) (gName 4)) (tSeq (tDrop (tBM K "list" (rAppend) (tVar 1) (tCons (tVar 4) (tNil)))) (tIfS (tTest (tOp (rEq) (tVar 3) (tC (.str "app")))) (tSeq (tDrop (tBM K "list" (rAppend) (tVar 2) (tCons (tOp (rAddT) (tVar 4) (tC (.str "a"))) (tNil)))) (tDrop (tBM K "list" (rAppend) (tVar 2) (tCons (tOp (rAddT) (tVar 4) (tC (.str "f"))) (tNil))))) (tIfS (tNot (tB (tIsi K (tVar 3) "int"))) (tDrop (tBM K "list" (rAppend) (tVar 2) (tCons (tOp (rAddT) (tVar 4) (tC (.str "b"))) (tNil)))) (tNext)))))) (tRet (tVar 1))))
theorem c_placed_nodes (K : PySem.W.Frag) (C : Addr) (t : Tm) (hs : size t < 1000000) (_ : ([.im (.tup (enc t))] : List Sl).length = 1) :
    CmD K C (t_placed_nodes K C) ([.im (.tup (enc t))] ++ List.replicate (n_placed_nodes.length - 1) .un) (fun _ => (.non : D) = .lst (dS (pl "" t))) (fun d => d = .lst (dS (pl "" t))) no no := by
  refine q_lst0 (q_lst (ds := [.str ""]) (a_consV e_str a_nil) ?_)
  refine q_forR (it_tup (e_var rfl)) (fun r S1 => ∃ ts ws acc z1 z2, InvP (pl "" t) (size t) r ts ws acc ∧ S1 = [.im (.tup (enc t)), .ml (dS acc), .ml (wS ws), z1, z2]) no ⟨[t], [""], [], _, _, .start t, rfl⟩ ?_ ?_ (fun _ h => h.elim)
  · rintro d r S1 ⟨ts, ws, acc, z1, z2, hi, rfl⟩
    refine ⟨_, tg_name, ?_⟩
    have hb := pls_bound hi
    have hn := hi.n
    obtain ⟨w, ws', rfl, hw, ⟨v, us, rfl, rfl, h⟩ | ⟨b, us, rfl, rfl, h⟩ | ⟨f, x, us, rfl, rfl, h⟩⟩ := hi.cons
    · refine q_pop (d := .str w) (ds := wS ws') (by rw [wS_cons]; rfl) (q_app rfl (e_var rfl) (by rw [dS_len]; omega) ?_)
      refine c_no (t_testV (v_op (e_var rfl) e_str o_eqIS)) (c_no (t_notV (t_bV (v_isiI (e_var rfl)))) (c_next ⟨us, ws', _, .im (.int (v : Int)), .im (.str w), h, ?_⟩))
      rw [dS_snoc]; rfl
    · refine q_pop (d := .str w) (ds := wS ws') (by rw [wS_cons]; rfl) (q_app rfl (e_var rfl) (by rw [dS_len]; omega) ?_)
      refine c_no (t_testV (v_op (e_var rfl) e_str eq_la)) (c_yes (t_notV (t_bV (v_isiS (e_var rfl)))) (c_app rfl (v_op (e_var rfl) e_str (o_addT (by rw [l1b]; omega))) (by simp at hb; simp; omega) ⟨_, _, _, .im (.str "lam"), .im (.str w), h, ?_⟩))
      simp only [dS_snoc, wS_cons]; rfl
    · refine q_pop (d := .str w) (ds := wS ws') (by rw [wS_cons]; rfl) (q_app rfl (e_var rfl) (by rw [dS_len]; omega) ?_)
      refine c_yes (t_testV (v_op (e_var rfl) e_str eq_aa)) (q_app rfl (v_op (e_var rfl) e_str (o_addT (by rw [l1a]; omega))) (by simp at hb; simp; omega) (c_app rfl (v_op (e_var rfl) e_str (o_addT (by rw [l1f]; omega))) (by simp at hb; simp; omega) ⟨_, _, _, .im (.str "app"), .im (.str w), h, ?_⟩))
      simp only [dS_snoc, wS_cons]; rfl
  · rintro S1 ⟨ts, ws, acc, z1, z2, hi, rfl⟩
    rw [hi.done]
    exact c_retL rfl rfl
theorem ok_placed_nodes {P : Program} {w : World} {K : PySem.W.Frag} {mg : Str → Option Value} {base : Heap} {C aI f : Addr} {fd : FuncData} (X : Tx K mg C aI) (F : Fun K "placed_nodes" "placed_nodes" s_placed_nodes f fd) (hm : mg "placed_nodes" = some (.ref f))  :
    Df P w K mg base 1 "placed_nodes" ["nodes"] (sp_placed_nodes K C) :=
  df_mk hm F.kp (F.binds fun _ _ _ _ _ _ us hl => match us, hl with | [_], _ => rfl) (F.ok sc_placed_nodes spG_len fun cdv A outer s H vs Q E hr h => ⟨t_placed_nodes K C, pss_cons (ps_set (i := 1) sc_placed_nodes.nd rfl (by first | exact Or.inl rfl | exact Or.inr rfl) (pe_lst (pa_nil))) (pss_cons (ps_set (i := 2) sc_placed_nodes.nd rfl (by first | exact Or.inl rfl | exact Or.inr rfl) (pe_lst (pa_cons (pe_str) (pa_nil)))) (pss_cons (ps_for PassesOwn.never rfl (pi_tup (pv 0)) (pg_name (i := 3) sc_placed_nodes.nd rfl (by first | exact Or.inl rfl | exact Or.inr rfl)) (pss_cons (ps_set (i := 4) sc_placed_nodes.nd rfl (by first | exact Or.inl rfl | exact Or.inr rfl) (pe_bm0 PySem.F.plainAttrs_list PySem.F.slot_list_pop PySem.F.type_list_pop mt_pop (pv 2))) (pss_cons (ps_expr (pe_bm PySem.F.plainAttrs_list PySem.F.slot_list_append PySem.F.type_list_append mt_append (pv 1) (pa_cons (pv 4) (pa_nil)))) (pss_one (ps_if (pt_cmpR (op_eq) (pv 3) (pe_str) (nomark _)) (pss_cons (ps_expr (pe_bm PySem.F.plainAttrs_list PySem.F.slot_list_append PySem.F.type_list_append mt_append (pv 2) (pa_cons (pe_op op_add_str (pv 4) (pe_str)) (pa_nil)))) (pss_one (ps_expr (pe_bm PySem.F.plainAttrs_list PySem.F.slot_list_append PySem.F.type_list_append mt_append (pv 2) (pa_cons (pe_op op_add_str (pv 4) (pe_str)) (pa_nil)))))) (pss_one (ps_if (pt_not (pt_val (pe_callB call_isi (by rfl) X.isinstance (by decide +kernel) (pa_cons (pv 3) (pa_cons (pe_bltn (v := .ty "int") (by rfl) X.int (by decide +kernel) rfl) pa_nil))))) (pss_one (ps_expr (pe_bm PySem.F.plainAttrs_list PySem.F.slot_list_append PySem.F.type_list_append mt_append (pv 2) (pa_cons (pe_op op_add_str (pv 4) (pe_str)) (pa_nil))))) (pss_nil)))))))) (pss_one (ps_ret (pv 1))))), run_of (E := E) (c_placed_nodes K C) h⟩)
end Wk
end
section
set_option Elab.async false
set_option autoImplicit false
set_option linter.all false
set_option maxRecDepth 100000
set_option maxHeartbeats 4000000
/-! is_redex, redexes, is_needless, needless, is_fully_normal, free. -/
namespace Wk
open PySem L2 Dl Dx Lam
structure GAt where
  t : Tm
  i : Nat
abbrev aAt (g : GAt) : List Sl := [.im (.tup (enc g.t)), .im (.int (g.i : Int))]
/-- what lies at an index -/
theorem at_cases {t : Tm} {i : Nat} (h : i < size t) : ∃ s a c, subAt t i = some s ∧ enc t = a ++ enc s ++ c ∧ a.length = i := by
  obtain ⟨s, hs⟩ := subAt_some h
  obtain ⟨a, c, e1, e2, _⟩ := subAt_enc hs
  exact ⟨s, a, c, hs, e1, e2⟩
theorem e_notF {K : PySem.W.Frag} {C : Addr} {S : List Sl} {ta : TE} (h : VlD K C ta S (.bl true)) : VlD K C (tNotV ta) S (.bl false) := e_notV (a := true) h
theorem hd_var {a c : List D} {n : Nat} {xs : List D} {i : Int} (e : xs = a ++ enc (.var n) ++ c) (h : i = (a.length : Int)) : atI xs i = some (.int (n : Int)) := by
  rw [e]; simp only [enc, List.append_assoc, List.cons_append, List.nil_append]; exact atI_mid h
theorem hd_lam {a c : List D} {b : Tm} {xs : List D} {i : Int} (e : xs = a ++ enc (.lam b) ++ c) (h : i = (a.length : Int)) : atI xs i = some (.str "lam") := by
  rw [e]; simp only [enc, List.append_assoc, List.cons_append, List.nil_append]; exact atI_mid h
theorem hd_app {a c : List D} {f x : Tm} {xs : List D} {i : Int} (e : xs = a ++ enc (.app f x) ++ c) (h : i = (a.length : Int)) : atI xs i = some (.str "app") := by
  rw [e]; simp only [enc, List.append_assoc, List.cons_append, List.nil_append]; exact atI_mid h
theorem sh_lam {a c : List D} {b : Tm} {xs : List D} (e : xs = a ++ enc (.lam b) ++ c) : xs = (a ++ [.str "lam"]) ++ enc b ++ c := by rw [e]; simp [enc]
theorem sh_app {a c : List D} {f x : Tm} {xs : List D} (e : xs = a ++ enc (.app f x) ++ c) : xs = (a ++ [.str "app"]) ++ enc f ++ (enc x ++ c) := by rw [e]; simp [enc]
theorem sh_app2 {a c : List D} {f x : Tm} {xs : List D} (e : xs = a ++ enc (.app f x) ++ c) : xs = (a ++ .str "app" :: enc f) ++ enc x ++ c := by rw [e]; simp [enc]
theorem ln1 {a : List D} {x : D} {i : Nat} (h : a.length = i) : ((i : Nat) : Int) + 1 = (((a ++ [x]).length : Nat) : Int) := by simp; omega
def sp_is_redex (K : PySem.W.Frag) (C : Addr) : Sp := spG K C 2 aAt (fun g => g.i < size g.t ∧ nf g.t = true) (fun _ d => d = .bl false)
abbrev s_is_redex : Stmt := topS 17
abbrev n_is_redex : List Str := ["nodes", "at"]
theorem sc_is_redex : FnScope n_is_redex ["nodes", "at"] (defScope s_is_redex) := ⟨rfl, rfl, rfl, by decide +kernel, rfl, by decide +kernel, by decide +kernel⟩
-- calls: []; level 1; slots: 0:nodes 1:at
def t_is_redex (K : PySem.W.Frag) (C : Addr) : TS := tRet (tAndV (tOp (rEq) (tOp (rIx K) (tVar 0) (tVar 1)) (tC (.str "app"))) (tAndV (tOp (rNe) (tOp (rIx K) (tVar 0) (tOp (rAddI) (tVar 1) (tC (.int 1)))) (tC (.str "app"))) (tNotV (tIsi K (tOp (rIx K) (tVar 0) (tOp (rAddI) (tVar 1) (tC (.int 1)))) "int"))))
theorem c_is_redex (K : PySem.W.Frag) (C : Addr) (g : GAt) (hp : g.i < size g.t ∧ nf g.t = true) (_ : (aAt g).length = 2) :
    CmD K C (t_is_redex K C) (aAt g ++ List.replicate (n_is_redex.length - 2) .un) (fun _ => (.non : D) = .bl false) (fun d => d = .bl false) no no := by
  obtain ⟨t, i⟩ := g
  obtain ⟨h1, h2⟩ : i < size t ∧ nf t = true := hp
  obtain ⟨s, a, c, hs, e, el⟩ := at_cases h1
  have hi : ((i : Nat) : Int) = (a.length : Int) := by rw [el]
  have hn := nf_part h2 hs
  cases s with
  | var n => exact c_retV (e_andV (a := false) (v_op (v_op (e_var rfl) (e_var rfl) (o_ixT (hd_var e hi))) e_str o_eqIS) (fun e => by cases e) fun _ => rfl) rfl
  | lam b => exact c_retV (e_andV (a := false) (v_op (v_op (e_var rfl) (e_var rfl) (o_ixT (hd_lam e hi))) e_str eq_la) (fun e => by cases e) fun _ => rfl) rfl
  | app f x =>
    refine c_retV (e_andV (a := true) (v_op (v_op (e_var rfl) (e_var rfl) (o_ixT (hd_app e hi))) e_str eq_aa) (fun _ => ?_) (fun e => by cases e)) rfl
    have e2 := sh_app e
    cases f with
    | lam b => simp [nf, isLam] at hn
    | app f1 x1 => exact e_andV (a := false) (v_op (v_op (e_var rfl) (v_op (e_var rfl) e_int o_add) (o_ixT (hd_app e2 (ln1 el)))) e_str ne_aa) (fun e => by cases e) fun _ => rfl
    | var n => exact e_andV (a := true) (v_op (v_op (e_var rfl) (v_op (e_var rfl) e_int o_add) (o_ixT (hd_var e2 (ln1 el)))) e_str o_neIS) (fun _ => e_notF (v_isiI (v_op (e_var rfl) (v_op (e_var rfl) e_int o_add) (o_ixT (hd_var e2 (ln1 el)))))) (fun e => by cases e)
theorem ok_is_redex {P : Program} {w : World} {K : PySem.W.Frag} {mg : Str → Option Value} {base : Heap} {C aI f : Addr} {fd : FuncData} (X : Tx K mg C aI) (F : Fun K "is_redex" "is_redex" s_is_redex f fd) (hm : mg "is_redex" = some (.ref f))  :
    Df P w K mg base 1 "is_redex" ["nodes", "at"] (sp_is_redex K C) :=
  df_mk hm F.kp (F.binds fun _ _ _ _ _ _ us hl => match us, hl with | [_, _], _ => rfl) (F.ok sc_is_redex spG_len fun cdv A outer s H vs Q E hr h => ⟨t_is_redex K C, pss_one (ps_ret (pe_and (pe_cmpR (op_eq) (pe_ix ix_seq (pv 0) (pv 1) (fun _ _ => rfl)) (pe_str) (nomark _)) (pe_and (pe_cmpR (op_ne) (pe_ix ix_seq (pv 0) (pe_op op_add (pv 1) (pe_int)) (fun _ _ => rfl)) (pe_str) (nomark _)) (pe_one (pe_not (pe_callB call_isi (by rfl) X.isinstance (by decide +kernel) (pa_cons (pe_ix ix_seq (pv 0) (pe_op op_add (pv 1) (pe_int)) (fun _ _ => rfl)) (pa_cons (pe_bltn (v := .ty "int") (by rfl) X.int (by decide +kernel) rfl) pa_nil)))))))), run_of (E := E) (c_is_redex K C) h⟩)
theorem enum_at {ns : List Str} {i : Nat} {d : D} (h : ((dS ns).mapIdx fun i d => D.tup [.int (i : Int), d])[i]? = some d) : i < ns.length ∧ ∃ y, d = .tup [.int (i : Int), y] := by
  rw [List.getElem?_mapIdx] at h
  cases e : (dS ns)[i]? with
  | none => rw [e] at h; cases h
  | some y =>
    rw [e] at h
    have := (List.getElem?_eq_some_iff.mp e).1
    rw [dS_len] at this
    exact ⟨this, y, (Option.some.inj h).symm⟩
def sp_redexes (K : PySem.W.Frag) (C : Addr) : Sp := spG K C 1 (fun t : Tm => [.im (.tup (enc t))]) (fun t => size t < 1000000 ∧ nf t = true) (fun t d => d = .lst [])
abbrev s_redexes : Stmt := topS 18
abbrev n_redexes : List Str := ["term", "found", "at", "place"]
theorem sc_redexes : FnScope n_redexes ["term"] (defScope s_redexes) := ⟨rfl, rfl, rfl, by decide +kernel, rfl, by decide +kernel, by decide +kernel⟩
-- calls: ['is_redex', 'placed_nodes']; level 2; slots: 0:term 1:found 2:at 3:place
def t_redexes (K : PySem.W.Frag) (C : Addr) : TS := tSeq (tAsg (tLst (tNil)) (gName 1)) (tSeq (tFor (iEnum K (tCons (tCall (sp_placed_nodes K C) [] E0 (tCons (tVar 0) (tNil))) (tNil))) (gTup K 2 (gCons (gName 2) (gCons (gName 3) (gNil)))) (tIfS (tB (tCall (sp_is_redex K C) [] E0 (tCons (tVar 0) (tCons (tVar 2) (tNil))))) (tDrop (tBM K "list" (rAppend) (tVar 1) (tCons (tVar 3) (tNil)))) (tNext))) (tRet (tVar 1)))
theorem c_redexes (K : PySem.W.Frag) (C : Addr) (t : Tm) (hp : size t < 1000000 ∧ nf t = true) (_ : ([.im (.tup (enc t))] : List Sl).length = 1) :
    CmD K C (t_redexes K C) ([.im (.tup (enc t))] ++ List.replicate (n_redexes.length - 1) .un) (fun _ => (.non : D) = .lst []) (fun d => d = .lst []) no no := by
  refine q_lst0 ?_
  refine q_for (it_enum (v_call t (a_consV (e_var rfl) a_nil) hp.1)) (fun i S1 => ∃ z2 z3, S1 = [.im (.tup (enc t)), .ml [], z2, z3]) no ⟨.un, .un, rfl⟩ ?_ ?_ (fun _ h => h.elim)
  · rintro i d S1 hi ⟨z2, z3, rfl⟩
    obtain ⟨h1, y, rfl⟩ := enum_at hi
    rw [pl_len] at h1
    refine ⟨_, tg_two, ?_⟩
    exact c_no (t_bV (v_call (⟨t, i⟩ : GAt) (a_consV (e_var rfl) (a_consV (e_var rfl) a_nil)) ⟨h1, hp.2⟩)) (c_next ⟨.im (.int (i : Int)), .im y, rfl⟩)
  · rintro S1 ⟨z2, z3, rfl⟩
    exact c_retL rfl rfl
theorem ok_redexes {P : Program} {w : World} {K : PySem.W.Frag} {mg : Str → Option Value} {base : Heap} {C aI f : Addr} {fd : FuncData} (X : Tx K mg C aI) (F : Fun K "redexes" "redexes" s_redexes f fd) (hm : mg "redexes" = some (.ref f)) (D_is_redex : Df P w K mg base 1 "is_redex" ["nodes", "at"] (sp_is_redex K C)) (D_placed_nodes : Df P w K mg base 1 "placed_nodes" ["nodes"] (sp_placed_nodes K C)) :
    Df P w K mg base 2 "redexes" ["term"] (sp_redexes K C) :=
  df_mk hm F.kp (F.binds fun _ _ _ _ _ _ us hl => match us, hl with | [_], _ => rfl) (F.ok sc_redexes spG_len fun cdv A outer s H vs Q E hr h => ⟨t_redexes K C, pss_cons (ps_set (i := 1) sc_redexes.nd rfl (by first | exact Or.inl rfl | exact Or.inr rfl) (pe_lst (pa_nil))) (pss_cons (ps_for PassesOwn.never rfl (pi_enum (by rfl) X.enumerate (pa_cons (pe_own D_placed_nodes (hr.mono (by decide)) (by rfl) (pa_cons (pv 0) (pa_nil))) (pa_nil))) (pg_tup rfl (pgs_cons (pg_name (i := 2) sc_redexes.nd rfl (by first | exact Or.inl rfl | exact Or.inr rfl)) (pgs_cons (pg_name (i := 3) sc_redexes.nd rfl (by first | exact Or.inl rfl | exact Or.inr rfl)) (pgs_nil)))) (pss_one (ps_if (pt_val (pe_own D_is_redex (hr.mono (by decide)) (by rfl) (pa_cons (pv 0) (pa_cons (pv 2) (pa_nil))))) (pss_one (ps_expr (pe_bm PySem.F.plainAttrs_list PySem.F.slot_list_append PySem.F.type_list_append mt_append (pv 1) (pa_cons (pv 3) (pa_nil))))) (pss_nil)))) (pss_one (ps_ret (pv 1)))), run_of (E := E) (c_redexes K C) h⟩)
def sp_is_needless (K : PySem.W.Frag) (C : Addr) : Sp := spG K C 2 aAt (fun g => size g.t < 1000000 ∧ g.i < size g.t ∧ en g.t = true) (fun _ d => d = .bl false)
abbrev s_is_needless : Stmt := topS 26
abbrev n_is_needless : List Str := ["term", "at", "end"]
theorem sc_is_needless : FnScope n_is_needless ["term", "at"] (defScope s_is_needless) := ⟨rfl, rfl, rfl, by decide +kernel, rfl, by decide +kernel, by decide +kernel⟩
-- calls: ['end_of', 'uses']; level 2; slots: 0:term 1:at 2:end
def t_is_needless (K : PySem.W.Frag) (C : Addr) : TS := tSeq (tIfS (tOr (tTest (tOp (rNe) (tOp (rIx K) (tVar 0) (tVar 1)) (tC (.str "lam")))) (tTest (tOp (rNe) (tOp (rIx K) (tVar 0) (tOp (rAddI) (tVar 1) (tC (.int 1)))) (tC (.str "app"))))) (tRet (tC (.bl false))) (tNext)) (tSeq (tAsg (tCall (sp_end_of K C) [] E0 (tCons (tVar 0) (tCons (tOp (rAddI) (tVar 1) (tC (.int 2))) (tNil)))) (gName 2)) (tRet (tAndV (tOp (rEq) (tOp (rIx K) (tVar 0) (tVar 2)) (tC (.int 0))) (tNotV (tCall (sp_uses K C) [] E0 (tCons (tSl (rSlA K) (tVar 0) (tPart (tOp (rAddI) (tVar 1) (tC (.int 2)))) (tPart (tVar 2))) (tNil)))))))
theorem c_is_needless (K : PySem.W.Frag) (C : Addr) (g : GAt) (hp : size g.t < 1000000 ∧ g.i < size g.t ∧ en g.t = true) (_ : (aAt g).length = 2) :
    CmD K C (t_is_needless K C) (aAt g ++ List.replicate (n_is_needless.length - 2) .un) (fun _ => (.non : D) = .bl false) (fun d => d = .bl false) no no := by
  obtain ⟨t, i⟩ := g
  obtain ⟨h0, h1, h2⟩ : size t < 1000000 ∧ i < size t ∧ en t = true := hp
  obtain ⟨s, a, c, hs, e, el⟩ := at_cases h1
  have hi : ((i : Nat) : Int) = (a.length : Int) := by rw [el]
  have hn := en_need1 (en_part h2 hs)
  cases s with
  | var n => exact q_yes (ts_is (t_orV (a := true) (b := false) (t_testV (v_op (v_op (e_var rfl) (e_var rfl) (o_ixT (hd_var e hi))) e_str o_neIS)) fun e => by cases e) rfl) (q_ret e_bl rfl)
  | app f x => exact q_yes (ts_is (t_orV (a := true) (b := false) (t_testV (v_op (v_op (e_var rfl) (e_var rfl) (o_ixT (hd_app e hi))) e_str ne_al)) fun e => by cases e) rfl) (q_ret e_bl rfl)
  | lam b =>
    have e2 := sh_lam e
    cases b with
    | var n => exact q_yes (ts_is (t_orV (a := false) (b := true) (t_testV (v_op (v_op (e_var rfl) (e_var rfl) (o_ixT (hd_lam e hi))) e_str ne_ll)) fun _ => t_testV (v_op (v_op (e_var rfl) (v_op (e_var rfl) e_int o_add) (o_ixT (hd_var e2 (ln1 el)))) e_str o_neIS)) rfl) (q_ret e_bl rfl)
    | lam b2 => exact q_yes (ts_is (t_orV (a := false) (b := true) (t_testV (v_op (v_op (e_var rfl) (e_var rfl) (o_ixT (hd_lam e hi))) e_str ne_ll)) fun _ => t_testV (v_op (v_op (e_var rfl) (v_op (e_var rfl) e_int o_add) (o_ixT (hd_lam e2 (ln1 el)))) e_str ne_la)) rfl) (q_ret e_bl rfl)
    | app f x =>
      have hsz := subAt_lt hs
      simp only [size] at hsz
      have hlf := enc_len f
      have e3 := sh_app e2
      have e4 := sh_app2 e2
      refine q_no (ts_is (t_orV (a := false) (b := false) (t_testV (v_op (v_op (e_var rfl) (e_var rfl) (o_ixT (hd_lam e hi))) e_str ne_ll)) fun _ => t_testV (v_op (v_op (e_var rfl) (v_op (e_var rfl) e_int o_add) (o_ixT (hd_app e2 (ln1 el)))) e_str ne_aa)) rfl) (q_next ?_)
      have l2 : ((i : Nat) : Int) + 2 = (((a ++ [D.str "lam"] ++ [D.str "app"]).length : Nat) : Int) := by simp; omega
      refine q_setE (v_call (⟨a ++ [.str "lam"] ++ [.str "app"], f, enc x ++ c⟩ : GEnd) (a_is (a_consV (e_var rfl) (a_consV (v_op (e_var rfl) e_int o_add) a_nil)) (by simp only [aEnd]; rw [← e3, ← l2])) trivial) ?_
      rintro d rfl
      have l3 : (((a ++ [D.str "lam"] ++ [D.str "app"]).length + size f : Nat) : Int) = (((a ++ [D.str "lam"] ++ .str "app" :: enc f).length : Nat) : Int) := by simp [hlf]; omega
      rw [l3]
      have cut : cutD (enc t) (some (((i : Nat) : Int) + 2)) (some (((a ++ [D.str "lam"] ++ .str "app" :: enc f).length : Nat) : Int)) = enc f := cut_mid e3 l2 (by simp; omega)
      have hu : ∀ S, S = [.im (.tup (enc t)), .im (.int (i : Int)), .im (.int (((a ++ [D.str "lam"] ++ .str "app" :: enc f).length : Nat) : Int))] → VlD K C (tNotV (tCall (sp_uses K C) [] E0 (tCons (tSl (rSlA K) (tVar 0) (tPart (tOp (rAddI) (tVar 1) (tC (.int 2)))) (tPart (tVar 2))) (tNil)))) S (.bl (!occ 0 f)) := fun S eS => by
        subst eS
        exact e_notV (a := occ 0 f) (v_call f (a_consV (v_is (v_slice (e_var rfl) (po_yes (v_op (e_var (i := 1) rfl) e_int o_add)) (po_yes (e_var (i := 2) rfl))) (by rw [cut])) a_nil) (show size f < 1000000 by omega))
      cases x with
      | var n =>
        refine c_retV (e_andV (z := false) (v_op (v_op (e_var rfl) (e_var rfl) (o_ixT (hd_var e4 rfl))) e_int o_eqII) (fun hb => ?_) (fun _ => rfl)) rfl
        have hn0 : n = 0 := by have := of_decide_eq_true hb; omega
        subst hn0
        have h5 : (!occ 0 f) = false := hn
        have := hu _ rfl
        rw [h5] at this
        exact this
      | lam b => exact c_retV (e_andV (a := false) (v_op (v_op (e_var rfl) (e_var rfl) (o_ixT (hd_lam e4 rfl))) e_int o_eqSI) (fun e => by cases e) (fun _ => rfl)) rfl
      | app b b2 => exact c_retV (e_andV (a := false) (v_op (v_op (e_var rfl) (e_var rfl) (o_ixT (hd_app e4 rfl))) e_int o_eqSI) (fun e => by cases e) (fun _ => rfl)) rfl
theorem ok_is_needless {P : Program} {w : World} {K : PySem.W.Frag} {mg : Str → Option Value} {base : Heap} {C aI f : Addr} {fd : FuncData} (X : Tx K mg C aI) (F : Fun K "is_needless" "is_needless" s_is_needless f fd) (hm : mg "is_needless" = some (.ref f)) (D_end_of : Df P w K mg base 1 "end_of" ["nodes", "start"] (sp_end_of K C)) (D_uses : Df P w K mg base 1 "uses" ["nodes"] (sp_uses K C)) :
    Df P w K mg base 2 "is_needless" ["term", "at"] (sp_is_needless K C) :=
  df_mk hm F.kp (F.binds fun _ _ _ _ _ _ us hl => match us, hl with | [_, _], _ => rfl) (F.ok sc_is_needless spG_len fun cdv A outer s H vs Q E hr h => ⟨t_is_needless K C, pss_cons (ps_if (PW.pt (pw_or (pt_cmpR (op_ne) (pe_ix ix_seq (pv 0) (pv 1) (fun _ _ => rfl)) (pe_str) (nomark _)) (pw_or1 (pt_cmpR (op_ne) (pe_ix ix_seq (pv 0) (pe_op op_add (pv 1) (pe_int)) (fun _ _ => rfl)) (pe_str) (nomark _))))) (pss_one (ps_ret (pe_bl))) (pss_nil)) (pss_cons (ps_set (i := 2) sc_is_needless.nd rfl (by first | exact Or.inl rfl | exact Or.inr rfl) (pe_own D_end_of (hr.mono (by decide)) (by rfl) (pa_cons (pv 0) (pa_cons (pe_op op_add (pv 1) (pe_int)) (pa_nil))))) (pss_one (ps_ret (pe_and (pe_cmpR (op_eq) (pe_ix ix_seq (pv 0) (pv 2) (fun _ _ => rfl)) (pe_int) (nomark _)) (pe_one (pe_not (pe_own D_uses (hr.mono (by decide)) (by rfl) (pa_cons (pe_slice sl_tupA (pv 0) (po_some (pe_op op_add (pv 1) (pe_int))) (po_some (pv 2))) (pa_nil))))))))), run_of (E := E) (c_is_needless K C) h⟩)
def sp_needless (K : PySem.W.Frag) (C : Addr) : Sp := spG K C 1 (fun t : Tm => [.im (.tup (enc t))]) (fun t => size t < 1000000 ∧ en t = true) (fun t d => d = .lst [])
abbrev s_needless : Stmt := topS 27
abbrev n_needless : List Str := ["term", "found", "at", "place"]
theorem sc_needless : FnScope n_needless ["term"] (defScope s_needless) := ⟨rfl, rfl, rfl, by decide +kernel, rfl, by decide +kernel, by decide +kernel⟩
-- calls: ['is_needless', 'placed_nodes']; level 3; slots: 0:term 1:found 2:at 3:place
def t_needless (K : PySem.W.Frag) (C : Addr) : TS := tSeq (tAsg (tLst (tNil)) (gName 1)) (tSeq (tFor (iEnum K (tCons (tCall (sp_placed_nodes K C) [] E0 (tCons (tVar 0) (tNil))) (tNil))) (gTup K 2 (gCons (gName 2) (gCons (gName 3) (gNil)))) (tIfS (tB (tCall (sp_is_needless K C) [] E0 (tCons (tVar 0) (tCons (tVar 2) (tNil))))) (tDrop (tBM K "list" (rAppend) (tVar 1) (tCons (tVar 3) (tNil)))) (tNext))) (tRet (tVar 1)))
theorem c_needless (K : PySem.W.Frag) (C : Addr) (t : Tm) (hp : size t < 1000000 ∧ en t = true) (_ : ([.im (.tup (enc t))] : List Sl).length = 1) :
    CmD K C (t_needless K C) ([.im (.tup (enc t))] ++ List.replicate (n_needless.length - 1) .un) (fun _ => (.non : D) = .lst []) (fun d => d = .lst []) no no := by
  refine q_lst0 ?_
  refine q_for (it_enum (v_call t (a_consV (e_var rfl) a_nil) hp.1)) (fun i S1 => ∃ z2 z3, S1 = [.im (.tup (enc t)), .ml [], z2, z3]) no ⟨.un, .un, rfl⟩ ?_ ?_ (fun _ h => h.elim)
  · rintro i d S1 hi ⟨z2, z3, rfl⟩
    obtain ⟨h1, y, rfl⟩ := enum_at hi
    rw [pl_len] at h1
    refine ⟨_, tg_two, ?_⟩
    exact c_no (t_bV (v_call (⟨t, i⟩ : GAt) (a_consV (e_var rfl) (a_consV (e_var rfl) a_nil)) ⟨hp.1, h1, hp.2⟩)) (c_next ⟨.im (.int (i : Int)), .im y, rfl⟩)
  · rintro S1 ⟨z2, z3, rfl⟩
    exact c_retL rfl rfl
theorem ok_needless {P : Program} {w : World} {K : PySem.W.Frag} {mg : Str → Option Value} {base : Heap} {C aI f : Addr} {fd : FuncData} (X : Tx K mg C aI) (F : Fun K "needless" "needless" s_needless f fd) (hm : mg "needless" = some (.ref f)) (D_is_needless : Df P w K mg base 2 "is_needless" ["term", "at"] (sp_is_needless K C)) (D_placed_nodes : Df P w K mg base 1 "placed_nodes" ["nodes"] (sp_placed_nodes K C)) :
    Df P w K mg base 3 "needless" ["term"] (sp_needless K C) :=
  df_mk hm F.kp (F.binds fun _ _ _ _ _ _ us hl => match us, hl with | [_], _ => rfl) (F.ok sc_needless spG_len fun cdv A outer s H vs Q E hr h => ⟨t_needless K C, pss_cons (ps_set (i := 1) sc_needless.nd rfl (by first | exact Or.inl rfl | exact Or.inr rfl) (pe_lst (pa_nil))) (pss_cons (ps_for PassesOwn.never rfl (pi_enum (by rfl) X.enumerate (pa_cons (pe_own D_placed_nodes (hr.mono (by decide)) (by rfl) (pa_cons (pv 0) (pa_nil))) (pa_nil))) (pg_tup rfl (pgs_cons (pg_name (i := 2) sc_needless.nd rfl (by first | exact Or.inl rfl | exact Or.inr rfl)) (pgs_cons (pg_name (i := 3) sc_needless.nd rfl (by first | exact Or.inl rfl | exact Or.inr rfl)) (pgs_nil)))) (pss_one (ps_if (pt_val (pe_own D_is_needless (hr.mono (by decide)) (by rfl) (pa_cons (pv 0) (pa_cons (pv 2) (pa_nil))))) (pss_one (ps_expr (pe_bm PySem.F.plainAttrs_list PySem.F.slot_list_append PySem.F.type_list_append mt_append (pv 1) (pa_cons (pv 3) (pa_nil))))) (pss_nil)))) (pss_one (ps_ret (pv 1)))), run_of (E := E) (c_needless K C) h⟩)
def sp_is_fully_normal (K : PySem.W.Frag) (C : Addr) : Sp := spG K C 1 (fun t : Tm => [.im (.tup (enc t))]) (fun t => size t < 1000000 ∧ nf t = true ∧ en t = true) (fun t d => d = .bl true)
abbrev s_is_fully_normal : Stmt := topS 34
abbrev n_is_fully_normal : List Str := ["term"]
theorem sc_is_fully_normal : FnScope n_is_fully_normal ["term"] (defScope s_is_fully_normal) := ⟨rfl, rfl, rfl, by decide +kernel, rfl, by decide +kernel, by decide +kernel⟩
-- calls: ['needless', 'redexes']; level 4; slots: 0:term
def t_is_fully_normal (K : PySem.W.Frag) (C : Addr) : TS := tRet (tAndV (tNotT K (tCall (sp_redexes K C) [] E0 (tCons (tVar 0) (tNil)))) (tNotT K (tCall (sp_needless K C) [] E0 (tCons (tVar 0) (tNil)))))
theorem c_is_fully_normal (K : PySem.W.Frag) (C : Addr) (t : Tm) (hp : size t < 1000000 ∧ nf t = true ∧ en t = true) (_ : ([.im (.tup (enc t))] : List Sl).length = 1) :
    CmD K C (t_is_fully_normal K C) ([.im (.tup (enc t))] ++ List.replicate (n_is_fully_normal.length - 1) .un) (fun _ => (.non : D) = .bl true) (fun d => d = .bl true) no no := by
  exact c_retV (e_andV (a := true) (v_notT (ds := []) (v_call t (a_consV (e_var rfl) a_nil) ⟨hp.1, hp.2.1⟩)) (fun _ => v_notT (ds := []) (v_call t (a_consV (e_var rfl) a_nil) ⟨hp.1, hp.2.2⟩)) (fun e => by cases e)) rfl
theorem ok_is_fully_normal {P : Program} {w : World} {K : PySem.W.Frag} {mg : Str → Option Value} {base : Heap} {C aI f : Addr} {fd : FuncData} (X : Tx K mg C aI) (F : Fun K "is_fully_normal" "is_fully_normal" s_is_fully_normal f fd) (hm : mg "is_fully_normal" = some (.ref f)) (D_needless : Df P w K mg base 3 "needless" ["term"] (sp_needless K C)) (D_redexes : Df P w K mg base 2 "redexes" ["term"] (sp_redexes K C)) :
    Df P w K mg base 4 "is_fully_normal" ["term"] (sp_is_fully_normal K C) :=
  df_mk hm F.kp (F.binds fun _ _ _ _ _ _ us hl => match us, hl with | [_], _ => rfl) (F.ok sc_is_fully_normal spG_len fun cdv A outer s H vs Q E hr h => ⟨t_is_fully_normal K C, pss_one (ps_ret (pe_and (pe_notT (pe_own D_redexes (hr.mono (by decide)) (by rfl) (pa_cons (pv 0) (pa_nil)))) (pe_one (pe_notT (pe_own D_needless (hr.mono (by decide)) (by rfl) (pa_cons (pv 0) (pa_nil))))))), run_of (E := E) (c_is_fully_normal K C) h⟩)
/-! ### free -/
def sp_free (K : PySem.W.Frag) (C : Addr) : Sp := spG K C 1 (fun t : Tm => [.im (.tup (enc t))]) (fun t => size t < 1000000 ∧ cl 0 t) (fun t d => d = .lst [])
abbrev s_free : Stmt := topS 11
abbrev n_free : List Str := ["term", "found", "node", "depth"]
theorem sc_free : FnScope n_free ["term"] (defScope s_free) := ⟨rfl, rfl, rfl, by decide +kernel, rfl, by decide +kernel, by decide +kernel⟩
-- calls: ['depths']; level 2; slots: 0:term 1:found 2:node 3:depth
def t_free (K : PySem.W.Frag) (C : Addr) (w : World) : TS := tSeq (tAsg (tCB (rSet0 w) tNil) (gName 1)) (tSeq (tFor (iZipM K (tCons (tVar 0) (tCons (tCall (sp_depths K C) [] E0 (tCons (tVar 0) (tNil))) (tNil)))) (gTup K 2 (gCons (gName 2) (gCons (gName 3) (gNil)))) (tIfS (tAnd (tB (tIsi K (tVar 2) "int")) (tTest (tOp (rGeI) (tVar 2) (tVar 3)))) (tNever) (tNext))) (tRet (tCB (rSortedSet w) (tCons (tVar 1) (tNil)))))
def clZ (d : D) : Prop := (∃ (n w : Nat), d = .tup [.int (n : Int), .int (w : Int)] ∧ n < w) ∨ (∃ (s : Str) (w : Nat), d = .tup [.str s, .int (w : Int)])
theorem clZ_all : ∀ (t : Tm) (k : Nat), cl k t → ∀ d ∈ (enc t).zipWith (fun x y => D.tup [x, y]) (dI (dep k t)), clZ d
  | .var n, k, h, d, hd => by
    simp only [enc, dep, dI, List.map_cons, List.map_nil, List.zipWith_cons_cons, List.zipWith_nil_left, List.mem_singleton] at hd
    exact .inl ⟨n, k, hd, h⟩
  | .lam b, k, h, d, hd => by
    simp only [enc, dep, dI, List.map_cons, List.zipWith_cons_cons, List.mem_cons] at hd
    rcases hd with hd | hd
    · exact .inr ⟨_, k, hd⟩
    · exact clZ_all b (k + 1) h d hd
  | .app f x, k, h, d, hd => by
    simp only [enc, dep, dI, List.map_cons, List.zipWith_cons_cons, List.mem_cons, List.map_append] at hd
    rcases hd with hd | hd
    · exact .inr ⟨_, k, hd⟩
    · rw [List.zipWith_append (by rw [List.length_map, enc_len, dep_len]), List.mem_append] at hd
      rcases hd with hd | hd
      · exact clZ_all f k h.1 d hd
      · exact clZ_all x k h.2 d hd
theorem c_free (K : PySem.W.Frag) (C : Addr) (w : World) (t : Tm) (hp : size t < 1000000 ∧ cl 0 t) (_ : ([.im (.tup (enc t))] : List Sl).length = 1) :
    CmD K C (t_free K C w) ([.im (.tup (enc t))] ++ List.replicate (n_free.length - 1) .un) (fun _ => (.non : D) = .lst []) (fun d => d = .lst []) no no := by
  refine q_set0 fun p => ?_
  refine q_forR (it_zipM (e_var rfl) (v_call t (a_consV (e_var rfl) a_nil) hp.1) (by rw [dI_len, enc_len, dep_len])) (fun r S1 => ∃ z2 z3, (∀ d ∈ r, clZ d) ∧ S1 = [.im (.tup (enc t)), .fz p (SetO w p (fun _ => false) 0), z2, z3]) no ⟨.un, .un, clZ_all t 0 hp.2, rfl⟩ ?_ ?_ (fun _ h => h.elim)
  · rintro d r S1 ⟨z2, z3, hz, rfl⟩
    rcases hz d List.mem_cons_self with ⟨n, w', rfl, hlt⟩ | ⟨s, w', rfl⟩
    · refine ⟨_, tg_two, ?_⟩
      refine c_no (ts_is (t_andV (a := true) (b := false) (t_bV (v_isiI (e_var rfl))) fun _ => t_testV (v_is (v_op (e_var rfl) (e_var rfl) o_ge) (by rw [dec_ff (by omega)]))) rfl) (c_next ⟨.im (.int (n : Int)), .im (.int (w' : Int)), fun d hd => hz d (List.mem_cons_of_mem _ hd), rfl⟩)
    · refine ⟨_, tg_two, ?_⟩
      exact c_no (ts_is (t_andV (a := false) (b := false) (t_bV (v_isiS (e_var rfl))) fun e => by cases e) rfl) (c_next ⟨.im (.str s), .im (.int (w' : Int)), fun d hd => hz d (List.mem_cons_of_mem _ hd), rfl⟩)
  · rintro S1 ⟨z2, z3, _, rfl⟩
    exact c_sorted0 rfl rfl
theorem ok_free {P : Program} {w : World} {K : PySem.W.Frag} {mg : Str → Option Value} {base : Heap} {C aI f : Addr} {fd : FuncData} (X : Tx K mg C aI) (F : Fun K "free" "free" s_free f fd) (hm : mg "free" = some (.ref f)) (D_depths : Df P w K mg base 1 "depths" ["nodes"] (sp_depths K C)) :
    Df P w K mg base 2 "free" ["term"] (sp_free K C) :=
  df_mk hm F.kp (F.binds fun _ _ _ _ _ _ us hl => match us, hl with | [_], _ => rfl) (F.ok sc_free spG_len fun cdv A outer s H vs Q E hr h => ⟨t_free K C w, pss_cons (ps_set (i := 1) sc_free.nd rfl (by first | exact Or.inl rfl | exact Or.inr rfl) (pe_callTy0 cr_set0 (by rfl) X.set (by decide +kernel))) (pss_cons (ps_for PassesOwn.never rfl (pi_zipM (by rfl) X.zip (pa_cons (pv 0) (pa_cons (pe_own D_depths (hr.mono (by decide)) (by rfl) (pa_cons (pv 0) (pa_nil))) (pa_nil)))) (pg_tup rfl (pgs_cons (pg_name (i := 2) sc_free.nd rfl (by first | exact Or.inl rfl | exact Or.inr rfl)) (pgs_cons (pg_name (i := 3) sc_free.nd rfl (by first | exact Or.inl rfl | exact Or.inr rfl)) (pgs_nil)))) (pss_one (ps_if (PW.pt (pw_and (pt_val (pe_callB call_isi (by rfl) X.isinstance (by decide +kernel) (pa_cons (pv 2) (pa_cons (pe_bltn (v := .ty "int") (by rfl) X.int (by decide +kernel) rfl) pa_nil)))) (pw_and1 (pt_cmpR (op_ge) (pv 2) (pv 3) (nomark _))))) (pss_one (ps_never)) (pss_nil)))) (pss_one (ps_ret (pe_callB (cr_sortedSet rfl) (by rfl) X.sorted (by decide +kernel) (pa_cons (pv 1) (pa_nil)))))), run_of (E := E) (c_free K C w) h⟩)
end Wk
end
section
set_option Elab.async false
set_option autoImplicit false
set_option linter.all false
set_option maxRecDepth 100000
set_option maxHeartbeats 4000000
/-! Plain: a normal term by its head; stretched heads; the positions of two terms. -/
namespace Wk
open PySem L2 Dl Lam
def hn : Tm → Nat
  | .lam b => hn b + 1
  | _ => 0
def bd : Tm → Tm
  | .lam b => bd b
  | t => t
def hvar : Tm → Nat
  | .var n => n
  | .app f _ => hvar f
  | .lam _ => 0
def hargs : Tm → List Tm
  | .app f x => hargs f ++ [x]
  | _ => []
def hv (t : Tm) : Nat := hvar (bd t)
def ha (t : Tm) : List Tm := hargs (bd t)
theorem apps_snoc (t x : Tm) (as : List Tm) : apps t (as ++ [x]) = .app (apps t as) x := by simp [apps, List.foldl_append]
theorem ne_eq : ∀ {f : Tm}, isLam f = false → nf f = true → f = apps (.var (hvar f)) (hargs f)
  | .var n, _, _ => rfl
  | .lam b, h, _ => by cases h
  | .app f x, _, h => by
    simp only [nf, Bool.and_eq_true, Bool.not_eq_true'] at h
    have := ne_eq h.1.1 h.1.2
    simp only [hvar, hargs]
    rw [apps_snoc, ← this]
theorem open_eq : ∀ {t : Tm}, nf t = true → t = lams (hn t) (apps (.var (hv t)) (ha t))
  | .var n, _ => rfl
  | .lam b, h => by
    have e : hn (.lam b) = hn b + 1 := rfl
    have e2 : hv (.lam b) = hv b := rfl
    have e3 : ha (.lam b) = ha b := rfl
    have := open_eq (t := b) h
    rw [e, e2, e3]
    show _ = Tm.lam (lams (hn b) (apps (.var (hv b)) (ha b)))
    rw [← this]
  | .app f x, h => ne_eq rfl h
theorem enc_apps : ∀ (as : List Tm) (t : Tm), enc (apps t as) = List.replicate as.length (D.str "app") ++ (enc t ++ encs as)
  | [], t => by simp [apps, encs]
  | a :: as, t => by
    show enc (apps (.app t a) as) = _
    rw [enc_apps as, encs_cons]
    simp only [enc, List.length_cons, List.replicate_succ, List.cons_append, List.append_assoc]
    rw [← List.cons_append, ← List.cons_append, ← List.replicate_succ, List.replicate_succ']
    simp
theorem enc_open {t : Tm} (h : nf t = true) : enc t = List.replicate (hn t) (D.str "lam") ++ (List.replicate (ha t).length (D.str "app") ++ (D.int ((hv t : Nat) : Int) :: encs (ha t))) := by
  have e := open_eq h
  generalize hn t = n at *
  generalize hv t = v at *
  generalize ha t = as at *
  subst e
  rw [enc_lams, enc_apps]
  rfl
theorem size_open {t : Tm} (h : nf t = true) : size t = hn t + (ha t).length + 1 + sizes (ha t) := by
  have hl := encs_len (ha t)
  rw [← enc_len, enc_open h]
  simp only [List.length_append, List.length_replicate, List.length_cons, hl]
  omega
theorem sizes_mem : ∀ {as : List Tm} {a : Tm}, a ∈ as → size a ≤ sizes as
  | b :: as, a, h => by
    rw [sizes_cons]
    rcases List.mem_cons.mp h with rfl | h
    · omega
    · have := sizes_mem h; omega
theorem sizes_len : ∀ as : List Tm, as.length ≤ sizes as
  | [] => by simp [sizes]
  | a :: as => by rw [sizes_cons, List.length_cons]; have := sizes_len as; have := size_pos a; omega
theorem nf_lams : ∀ {n : Nat} {t : Tm}, nf (lams n t) = nf t
  | 0, t => rfl
  | n + 1, t => nf_lams (n := n)
theorem cl_lams : ∀ {n k : Nat} {t : Tm}, cl k (lams n t) ↔ cl (k + n) t
  | 0, k, t => Iff.rfl
  | n + 1, k, t => by
    show cl (k + 1) (lams n t) ↔ _
    rw [cl_lams, show k + 1 + n = k + (n + 1) by omega]
theorem cl_apps : ∀ {as : List Tm} {k : Nat} {t : Tm}, cl k (apps t as) ↔ cl k t ∧ ∀ a ∈ as, cl k a
  | [], k, t => by simp [apps]
  | a :: as, k, t => by
    show cl k (apps (.app t a) as) ↔ _
    rw [cl_apps]
    simp [cl, and_assoc]
theorem nf_apps : ∀ {as : List Tm} {t : Tm}, nf (apps t as) = true → nf t = true ∧ ∀ a ∈ as, nf a = true
  | [], t, h => ⟨h, by simp⟩
  | a :: as, t, h => by
    have := nf_apps (as := as) (t := .app t a) h
    simp only [nf, Bool.and_eq_true] at this
    refine ⟨this.1.1.2, fun b hb => ?_⟩
    rcases List.mem_cons.mp hb with rfl | hb
    · exact this.1.2
    · exact this.2 b hb
theorem en_apps : ∀ {as : List Tm} {t : Tm}, en (apps t as) = true → en t = true ∧ ∀ a ∈ as, en a = true
  | [], t, h => ⟨h, by simp⟩
  | a :: as, t, h => by
    have := en_apps (as := as) (t := .app t a) h
    simp only [en, Bool.and_eq_true] at this
    refine ⟨this.1.1, fun b hb => ?_⟩
    rcases List.mem_cons.mp hb with rfl | hb
    · exact this.1.2
    · exact this.2 b hb
theorem en_lams : ∀ {n : Nat} {t : Tm}, en (lams n t) = true → en t = true
  | 0, t, h => h
  | n + 1, t, h => by
    simp only [lams, en, Bool.and_eq_true] at h
    exact en_lams h.2
theorem ha_nf {t : Tm} (h : nf t = true) : ∀ a ∈ ha t, nf a = true := by
  have e := open_eq h
  rw [e, nf_lams] at h
  exact (nf_apps h).2
theorem ha_en {t : Tm} (h : nf t = true) (h2 : en t = true) : ∀ a ∈ ha t, en a = true := by
  have e := open_eq h
  rw [e] at h2
  exact (en_apps (en_lams h2)).2
theorem ha_cl {t : Tm} {k : Nat} (h : nf t = true) (h2 : cl k t) : hv t < k + hn t ∧ ∀ a ∈ ha t, cl (k + hn t) a := by
  have e := open_eq h
  rw [e, cl_lams, cl_apps] at h2
  exact h2
/-! ### stretched -/
def dn : Nat → List Tm
  | 0 => []
  | n + 1 => .var n :: dn n
theorem dn_len : ∀ n, (dn n).length = n
  | 0 => rfl
  | n + 1 => by simp [dn, dn_len n]
theorem dn_mem : ∀ {n : Nat} {a : Tm}, a ∈ dn n → ∃ k, k < n ∧ a = .var k
  | n + 1, a, h => by
    rcases List.mem_cons.mp h with rfl | h
    · exact ⟨n, Nat.lt_succ_self n, rfl⟩
    · obtain ⟨k, h1, h2⟩ := dn_mem h
      exact ⟨k, by omega, h2⟩
abbrev Hd := Nat × List Tm
def stn (c : Nat) (t : Tm) : Hd := (hv t + (c - hn t), (ha t).map (lift (c - hn t)) ++ dn (c - hn t))
theorem stn_len (c : Nat) (t : Tm) : (stn c t).2.length = (ha t).length + (c - hn t) := by simp [stn, dn_len]
def mx (t u : Tm) : Nat := max (hn t) (hn u)
def alike (p q : Hd) : Bool := (p.1 == q.1) && (p.2.length == q.2.length)
def fne : List Tm → List Tm → Nat
  | a :: as, b :: bs => if a = b then fne as bs + 1 else 0
  | _, _ => 0
def nth (as : List Tm) (k : Nat) : Tm := (as[k]?).getD (.var 0)
theorem nth_of {as : List Tm} {k : Nat} {a : Tm} (h : as[k]? = some a) : nth as k = a := by simp [nth, h]
theorem nth_get {as : List Tm} {k : Nat} (h : k < as.length) : as[k]? = some (nth as k) := by simp [nth, h]
theorem fne_lt : ∀ {as bs : List Tm}, as.length = bs.length → as ≠ bs → fne as bs < as.length ∧ nth as (fne as bs) ≠ nth bs (fne as bs) ∧ ∀ k, k < fne as bs → nth as k = nth bs k
  | [], [], _, h => absurd rfl h
  | a :: as, b :: bs, hl, h => by
    simp only [fne]
    by_cases e : a = b
    · subst e
      rw [if_pos rfl]
      obtain ⟨h1, h2, h3⟩ := fne_lt (as := as) (bs := bs) (by simpa using hl) (fun z => h (by rw [z]))
      refine ⟨by simp only [List.length_cons]; omega, by simpa [nth] using h2, fun k hk => ?_⟩
      cases k with
      | zero => rfl
      | succ k => simpa [nth] using h3 k (by omega)
    · rw [if_neg e]
      exact ⟨by simp, by simpa [nth] using e, fun k hk => by omega⟩
structure Ps where
  ab : Nat
  off : Nat
  p : Hd
  q : Hd
  turn : Option Nat
def path : Nat → Nat → Tm → Tm → List Ps
  | 0, off, t, u => [⟨mx t u, off, stn (mx t u) t, stn (mx t u) u, none⟩]
  | f + 1, off, t, u =>
    if alike (stn (mx t u) t) (stn (mx t u) u) = true then
      ⟨mx t u, off, stn (mx t u) t, stn (mx t u) u, some (fne (stn (mx t u) t).2 (stn (mx t u) u).2)⟩ ::
        path f (off + mx t u) (nth (stn (mx t u) t).2 (fne (stn (mx t u) t).2 (stn (mx t u) u).2)) (nth (stn (mx t u) u).2 (fne (stn (mx t u) t).2 (stn (mx t u) u).2))
    else [⟨mx t u, off, stn (mx t u) t, stn (mx t u) u, none⟩]
/-- what holds of two terms on the way: m bounds their sizes -/
structure Two (m off : Nat) (t u : Tm) : Prop where
  nt : nf t = true
  nu : nf u = true
  et : en t = true
  eu : en u = true
  ct : cl off t
  cu : cl off u
  st : size t ≤ m
  su : size u ≤ m
  ne : t ≠ u
theorem lift_var (c n : Nat) : lift c (.var n) = .var (n + c) := rfl
theorem lift_inj {c : Nat} {t u : Tm} (h : lift c t = lift c u) : t = u := ren_inj (fun a b e => by simpa using e) t u h
theorem map_lift0 (as : List Tm) : as.map (lift 0) = as := by
  rw [show (lift 0 : Tm → Tm) = id from funext fun t => ren_id t, List.map_id]
theorem map_lift_inj {c : Nat} : ∀ {as bs : List Tm}, as.map (lift c) = bs.map (lift c) → as = bs
  | [], [], _ => rfl
  | [], b :: bs, h => by simp at h
  | a :: as, [], h => by simp at h
  | a :: as, b :: bs, h => by
    simp only [List.map_cons, List.cons.injEq] at h
    rw [lift_inj h.1, map_lift_inj h.2]
theorem occ_lift : ∀ (t : Tm) (c d n : Nat), n < c → occ (d + n) (lf c d t) = false
  | .var k, c, d, n, h => by
    simp only [lf]
    by_cases g : k ≥ d
    · rw [if_pos g]; simp only [occ, beq_eq_false_iff_ne]; omega
    · rw [if_neg g]; simp only [occ, beq_eq_false_iff_ne]; omega
  | .lam b, c, d, n, h => by
    have := occ_lift b c (d + 1) n h
    show occ (d + n + 1) (lf c (d + 1) b) = false
    rw [show d + n + 1 = d + 1 + n by omega]
    exact this
  | .app f x, c, d, n, h => by
    show (occ (d + n) (lf c d f) || occ (d + n) (lf c d x)) = false
    rw [occ_lift f c d n h, occ_lift x c d n h]
    rfl
theorem occ_apps : ∀ {as : List Tm} {t : Tm} {d : Nat}, occ d t = false → (∀ a ∈ as, occ d a = false) → occ d (apps t as) = false
  | [], t, d, h, _ => h
  | a :: as, t, d, h, h2 => by
    show occ d (apps (.app t a) as) = false
    refine occ_apps ?_ fun b hb => h2 b (List.mem_cons_of_mem _ hb)
    simp only [occ, h, h2 a List.mem_cons_self]
    rfl
theorem en_last : ∀ {n : Nat} {t : Tm}, en (lams (n + 1) t) = true → need0 t = false
  | 0, t, h => by
    simp only [lams, en, Bool.and_eq_true, Bool.not_eq_true'] at h
    exact h.1
  | n + 1, t, h => by
    have h' : en (.lam (lams (n + 1) t)) = true := h
    simp only [en, Bool.and_eq_true] at h'
    exact en_last h'.2
theorem dn_snoc : ∀ n, ∃ r, dn (n + 1) = r ++ [.var 0] ∧ ∀ a ∈ r, ∃ k, a = .var (k + 1)
  | 0 => ⟨[], rfl, by simp⟩
  | n + 1 => by
    obtain ⟨r, h1, h2⟩ := dn_snoc n
    refine ⟨.var (n + 1) :: r, by rw [dn, h1]; rfl, fun a ha => ?_⟩
    rcases List.mem_cons.mp ha with rfl | ha
    · exact ⟨n, rfl⟩
    · exact h2 a ha
/-- a term with fewer abstractions, stretched, is no fully normal one -/
theorem stn_short {t u : Tm} (hu : nf u = true) (eu : en u = true) (hlt : hn t < hn u) : stn (hn u) t ≠ stn (hn u) u := by
  intro e
  obtain ⟨c, hc⟩ : ∃ c, hn u - hn t = c + 1 := ⟨hn u - hn t - 1, by omega⟩
  obtain ⟨n, hn'⟩ : ∃ n, hn u = n + 1 := ⟨hn u - 1, by omega⟩
  have e1 : (stn (hn u) u) = (hv u, ha u) := by simp [stn, dn, map_lift0]
  rw [e1] at e
  simp only [stn, hc, Prod.mk.injEq] at e
  obtain ⟨ev, ea⟩ := e
  obtain ⟨r, hr, hr2⟩ := dn_snoc c
  rw [hr, ← List.append_assoc] at ea
  have ou := open_eq hu
  rw [← ea, ← ev, apps_snoc, hn'] at ou
  rw [ou] at eu
  have := en_last eu
  simp only [need0, Bool.not_eq_false'] at this
  rw [occ_apps (by simp only [occ, beq_eq_false_iff_ne]; omega) fun a ha => ?_] at this
  · cases this
  · rcases List.mem_append.mp ha with ha | ha
    · obtain ⟨b, _, rfl⟩ := List.mem_map.mp ha
      rw [← lf_lift]
      exact occ_lift b (c + 1) 0 0 (by omega)
    · obtain ⟨k, rfl⟩ := hr2 a ha
      simp [occ]
theorem stn_inj {t u : Tm} (ht : nf t = true) (hu : nf u = true) (et : en t = true) (eu : en u = true) (e : stn (mx t u) t = stn (mx t u) u) : t = u := by
  rcases Nat.lt_trichotomy (hn t) (hn u) with h | h | h
  · have : mx t u = hn u := by simp only [mx]; omega
    rw [this] at e
    exact absurd e (stn_short hu eu h)
  · have : mx t u = hn u := by simp only [mx]; omega
    rw [this] at e
    simp only [stn, h, Nat.sub_self, dn, List.append_nil, Prod.mk.injEq] at e
    have := map_lift_inj e.2
    rw [open_eq ht, open_eq hu, h, this, show hv t = hv u by omega]
  · have : mx t u = hn t := by simp only [mx]; omega
    rw [this] at e
    exact absurd e.symm (stn_short ht et h)
/-- an argument of a stretched head -/
structure Arg (k s : Nat) (a : Tm) : Prop where
  n : nf a = true
  e : en a = true
  c : cl k a
  s : size a ≤ s
theorem stn_arg {t : Tm} {k c : Nat} (h : nf t = true) (h2 : en t = true) (h3 : cl k t) (hc : hn t ≤ c) : ∀ a ∈ (stn c t).2, Arg (k + c) (size t) a ∧ (c = hn t → size a < size t) := by
  intro a hm
  simp only [stn] at hm
  rcases List.mem_append.mp hm with hm | hm
  · obtain ⟨b, hb, rfl⟩ := List.mem_map.mp hm
    have h4 := (ha_cl h h3).2 b hb
    have h5 := size_open h
    have h6 := sizes_mem hb
    have h7 := cl_lift (c := c - hn t) h4
    refine ⟨⟨by rw [nf_ren]; exact ha_nf h b hb, by rw [en_ren]; exact ha_en h h2 b hb, ?_, by rw [size_lift]; omega⟩, fun _ => by rw [size_lift]; omega⟩
    rw [show k + c = k + hn t + (c - hn t) by omega]
    exact h7
  · obtain ⟨j, hj, rfl⟩ := dn_mem hm
    have := size_pos t
    exact ⟨⟨rfl, rfl, show j < k + c by omega, by simp only [size]; omega⟩, fun e => by omega⟩
theorem Two.next {m off : Nat} {t u : Tm} (h : Two m off t u) (hk : alike (stn (mx t u) t) (stn (mx t u) u) = true) :
    let k := fne (stn (mx t u) t).2 (stn (mx t u) u).2
    k < (stn (mx t u) t).2.length ∧ k < (stn (mx t u) u).2.length ∧ Two m (off + mx t u) (nth (stn (mx t u) t).2 k) (nth (stn (mx t u) u).2 k) ∧
      size (nth (stn (mx t u) t).2 k) + size (nth (stn (mx t u) u).2 k) < size t + size u := by
  intro k
  simp only [alike, Bool.and_eq_true, beq_iff_eq] at hk
  have ne : (stn (mx t u) t).2 ≠ (stn (mx t u) u).2 := fun e => h.ne (stn_inj h.nt h.nu h.et h.eu (Prod.ext hk.1 e))
  obtain ⟨h1, h2, h3⟩ := fne_lt hk.2 ne
  have hm1 : hn t ≤ mx t u := Nat.le_max_left _ _
  have hm2 : hn u ≤ mx t u := Nat.le_max_right _ _
  obtain ⟨a1, a2⟩ := stn_arg h.nt h.et h.ct hm1 _ (List.mem_of_getElem? (nth_get h1))
  have h1' : k < (stn (mx t u) u).2.length := by rw [← hk.2]; exact h1
  obtain ⟨b1, b2⟩ := stn_arg h.nu h.eu h.cu hm2 _ (List.mem_of_getElem? (nth_get h1'))
  refine ⟨h1, h1', ⟨a1.n, b1.n, a1.e, b1.e, a1.c, b1.c, Nat.le_trans a1.s h.st, Nat.le_trans b1.s h.su, h2⟩, ?_⟩
  have := a1.s
  have := b1.s
  by_cases g : mx t u = hn t
  · have := a2 g
    show size (nth (stn (mx t u) t).2 (fne (stn (mx t u) t).2 (stn (mx t u) u).2)) + _ < _
    omega
  · have := b2 (by simp only [mx] at g ⊢; omega)
    show size (nth (stn (mx t u) t).2 (fne (stn (mx t u) t).2 (stn (mx t u) u).2)) + _ < _
    omega
end Wk
end
section
set_option Elab.async false
set_option autoImplicit false
set_option linter.all false
set_option maxRecDepth 100000
set_option maxHeartbeats 4000000
/-! opened, head, stretched, most_abstractions, look. -/
namespace Wk
open PySem L2 Dl Dx Lam
/-- where the arguments begin -/
def sts : Nat → List Tm → List Nat
  | _, [] => []
  | s, a :: as => s :: sts (s + size a) as
def argAt : Nat → List Tm → Nat → List D
  | _, [], _ => []
  | s, a :: as, k => if k = s then enc a else argAt (s + size a) as k
theorem sts_len : ∀ (as : List Tm) (s : Nat), (sts s as).length = as.length
  | [], s => rfl
  | a :: as, s => by simp only [sts, List.length_cons, sts_len as]
theorem sts_take : ∀ (as : List Tm) (s i : Nat) {a : Tm}, as[i]? = some a → (sts s as).take (i + 1) = (sts s as).take i ++ [s + sizes (as.take i)]
  | a :: as, s, 0, b, h => by simp [sts, sizes]
  | a :: as, s, i + 1, b, h => by
    simp only [List.getElem?_cons_succ] at h
    simp only [sts, List.take_succ_cons, List.cons_append, sizes_cons]
    rw [sts_take as _ i h]
    simp [Nat.add_assoc]
  | [], s, i, b, h => by simp at h
theorem sts_ge : ∀ {as : List Tm} {s k : Nat}, k ∈ sts s as → s ≤ k
  | a :: as, s, k, h => by
    rcases List.mem_cons.mp h with rfl | h
    · exact Nat.le_refl _
    · have := sts_ge h; omega
theorem sts_arg : ∀ (as : List Tm) (s : Nat), (sts s as).map (argAt s as) = as.map enc
  | [], s => rfl
  | a :: as, s => by
    simp only [sts, List.map_cons, argAt, if_true, List.cons.injEq, true_and]
    rw [← sts_arg as (s + size a)]
    apply List.map_congr_left
    intro k hk
    have := sts_ge hk
    have := size_pos a
    rw [if_neg (by omega)]
theorem sts_at : ∀ {as : List Tm} {s k : Nat}, k ∈ sts s as → ∃ pre a post, as = pre ++ a :: post ∧ k = s + sizes pre ∧ argAt s as k = enc a
  | a :: as, s, k, h => by
    rcases List.mem_cons.mp h with rfl | h
    · exact ⟨[], a, as, rfl, by simp [sizes], by simp [argAt]⟩
    · have h0 := sts_ge h
      have h1 := size_pos a
      obtain ⟨pre, b, post, e1, e2, e3⟩ := sts_at h
      exact ⟨a :: pre, b, post, by rw [e1]; rfl, by rw [sizes_cons]; omega, by simp only [argAt]; rw [if_neg (by omega)]; exact e3⟩
theorem encs_cat (as bs : List Tm) : encs (as ++ bs) = encs as ++ encs bs := by simp [encs]
theorem sizes_app (as bs : List Tm) : sizes (as ++ bs) = sizes as + sizes bs := by simp [sizes]
theorem rep_in {x : D} {n : Nat} {r : List D} {i : Int} {c : Nat} (h : c < n) (e : i = (c : Int)) : atI (List.replicate n x ++ r) i = some x := by
  rw [e]
  refine atI_pos ?_
  rw [List.getElem?_append_left (by simpa using h)]
  simp [h]
theorem rep_end {x y : D} {n : Nat} {r : List D} {i : Int} (e : i = (n : Int)) : atI (List.replicate n x ++ (y :: r)) i = some y := atI_mid (by simpa using e)
theorem opn_lam {t : Tm} (h : nf t = true) {j : Nat} (hj : j < hn t) : atI (enc t) (j : Int) = some (.str "lam") := by
  rw [enc_open h]
  exact rep_in hj rfl
theorem opn_app {t : Tm} (h : nf t = true) {j : Nat} {i : Int} (hj : j < (ha t).length) (e : i = ((hn t + j : Nat) : Int)) : atI (enc t) i = some (.str "app") := by
  rw [enc_open h, e]
  refine atI_pos ?_
  rw [List.getElem?_append_right (by simp), List.getElem?_append_left (by simp; omega), List.length_replicate, Nat.add_sub_cancel_left]
  simp [hj]
theorem opn_var {t : Tm} (h : nf t = true) {i : Int} (e : i = ((hn t + (ha t).length : Nat) : Int)) : atI (enc t) i = some (.int ((hv t : Nat) : Int)) := by
  rw [enc_open h, ← List.append_assoc]
  exact atI_mid (by rw [e]; simp)
theorem opn_arg {t : Tm} (h : nf t = true) {pre post : List Tm} {a : Tm} (e : ha t = pre ++ a :: post) : ∃ P, enc t = P ++ enc a ++ encs post ∧ P.length = hn t + (ha t).length + 1 + sizes pre := by
  refine ⟨List.replicate (hn t) (D.str "lam") ++ (List.replicate (ha t).length (D.str "app") ++ (D.int ((hv t : Nat) : Int) :: encs pre)), ?_, ?_⟩
  · rw [enc_open h, e, encs_cat, encs_cons]
    simp
  · have hl := encs_len pre
    simp only [List.length_append, List.length_replicate, List.length_cons, hl]
    omega
abbrev dOpen (t : Tm) : D := .tup [.int ((hn t : Nat) : Int), .int ((hn t + (ha t).length : Nat) : Int), .lst (dI (sts (hn t + (ha t).length + 1) (ha t)))]
def sp_opened (K : PySem.W.Frag) (C : Addr) : Sp := spG K C 1 (fun t : Tm => [.im (.tup (enc t))]) (fun t => size t < 1000000 ∧ nf t = true) (fun t d => d = dOpen t)
abbrev s_opened : Stmt := topS 20
abbrev n_opened : List Str := ["term", "count", "at", "found", "start", "_"]
theorem sc_opened : FnScope n_opened ["term"] (defScope s_opened) := ⟨rfl, rfl, rfl, by decide +kernel, rfl, by decide +kernel, by decide +kernel⟩
-- calls: ['end_of_head']; level 2; slots: 0:term 1:count 2:at 3:found 4:start 5:_
def t_opened (K : PySem.W.Frag) (C : Addr) : TS := tSeq (tAsg (tC (.int 0)) (gName 1)) (tSeq (tWhile (tTest (tOp (rEq) (tOp (rIx K) (tVar 0) (tVar 1)) (tC (.str "lam")))) (tAug 1 (tC (.int 1)) (ipI fun i j => i + j))) (tSeq (tAsg (tVar 1) (gName 2)) (tSeq (tWhile (tTest (tOp (rEq) (tOp (rIx K) (tVar 0) (tVar 2)) (tC (.str "app")))) (tAug 2 (tC (.int 1)) (ipI fun i j => i + j))) (tSeq (tAsg (tLst (tNil)) (gName 3)) (tSeq (tAsg (tCall (sp_end_of_head K C) [] E0 (tCons (tVar 0) (tCons (tVar 2) (tNil)))) (gName 4)) (tSeq (tFor (iRng1 (tCons (tOp (rSubI) (tVar 2) (tVar 1)) (tNil))) (gName 5) (tSeq (tDrop (tBM K "list" (rAppend) (tVar 3) (tCons (tVar 4) (tNil)))) (tAsg (tCall (sp_end_of_head K C) [] E0 (tCons (tVar 0) (tCons (tVar 4) (tNil)))) (gName 4)))) (tRet (tTup (tCons (tVar 1) (tCons (tVar 2) (tCons (tVar 3) (tNil))))))))))))
theorem c_opened (K : PySem.W.Frag) (C : Addr) (t : Tm) (hp : size t < 1000000 ∧ nf t = true) (_ : ([.im (.tup (enc t))] : List Sl).length = 1) :
    CmD K C (t_opened K C) ([.im (.tup (enc t))] ++ List.replicate (n_opened.length - 1) .un) (fun _ => (.non : D) = dOpen t) (fun d => d = dOpen t) no no := by
  obtain ⟨h0, h1⟩ := hp
  have hsz := size_open h1
  refine q_set e_int ?_
  refine q_while (fun m S1 => ∃ c : Nat, c ≤ hn t ∧ m = hn t - c ∧ S1 = [.im (.tup (enc t)), .im (.int (c : Int)), .un, .un, .un, .un]) no (hn t) ⟨0, by omega, rfl, rfl⟩ ?_ (fun _ h => h.elim)
  rintro m S1 ⟨c, hc, rfl, rfl⟩
  by_cases hlt : c < hn t
  · refine ⟨_, t_testV (v_op (v_op (e_var rfl) (e_var rfl) (o_ixT (d := .str "lam") (opn_lam h1 hlt))) e_str eq_ll), fun _ => ?_, fun e => by cases e⟩
    exact c_aug rfl e_int ⟨hn t - (c + 1), by omega, c + 1, by omega, rfl, by simp⟩
  · have ec : c = hn t := by omega
    subst ec
    have tst : TsD K C (tTest (tOp (rEq) (tOp (rIx K) (tVar 0) (tVar 1)) (tC (.str "lam")))) [.im (.tup (enc t)), .im (.int ((hn t : Nat) : Int)), .un, .un, .un, .un] (fun b => b = false) := by
      by_cases hz : (ha t).length = 0
      · refine t_testV (v_op (v_op (e_var rfl) (e_var rfl) (o_ixT (opn_var h1 (by rw [hz]; simp)))) e_str o_eqIS)
      · exact t_testV (v_op (v_op (e_var rfl) (e_var rfl) (o_ixT (opn_app h1 (j := 0) (by omega) (by simp)))) e_str eq_al)
    refine ⟨_, tst, (fun e => by cases e), fun _ => ?_⟩
    refine q_set (e_var rfl) ?_
    refine q_while (fun m S1 => ∃ j : Nat, j ≤ (ha t).length ∧ m = (ha t).length - j ∧ S1 = [.im (.tup (enc t)), .im (.int ((hn t : Nat) : Int)), .im (.int ((hn t + j : Nat) : Int)), .un, .un, .un]) no ((ha t).length) ⟨0, by omega, rfl, by simp⟩ ?_ (fun _ h => h.elim)
    rintro m S1 ⟨j, hj, rfl, rfl⟩
    by_cases hlt : j < (ha t).length
    · refine ⟨_, t_testV (v_op (v_op (e_var rfl) (e_var rfl) (o_ixT (opn_app h1 hlt rfl))) e_str eq_aa), fun _ => ?_, fun e => by cases e⟩
      exact c_aug rfl e_int ⟨(ha t).length - (j + 1), by omega, j + 1, by omega, rfl, by simp; omega⟩
    · have ej : j = (ha t).length := by omega
      subst ej
      refine ⟨_, t_testV (v_op (v_op (e_var rfl) (e_var rfl) (o_ixT (opn_var h1 rfl))) e_str o_eqIS), (fun e => by cases e), fun _ => ?_⟩
      refine q_lst0 ?_
      have eV : enc t = (List.replicate (hn t) (D.str "lam") ++ List.replicate (ha t).length (D.str "app")) ++ enc (.var (hv t)) ++ encs (ha t) := by rw [enc_open h1]; simp [enc]
      have eVl : ((hn t + (ha t).length : Nat) : Int) = (((List.replicate (hn t) (D.str "lam") ++ List.replicate (ha t).length (D.str "app")).length : Nat) : Int) := by simp
      refine q_setE (v_call (⟨List.replicate (hn t) (D.str "lam") ++ List.replicate (ha t).length (D.str "app"), .var (hv t), encs (ha t)⟩ : GEnd) (a_is (a_consV (e_var rfl) (a_consV (e_var rfl) a_nil)) (by simp only [aEnd]; rw [← eV, ← eVl])) trivial) ?_
      rintro d rfl
      have eN : ((hn t + (ha t).length : Nat) : Int) - ((hn t : Nat) : Int) = (((ha t).length : Nat) : Int) := by omega
      refine q_for (it_rng1 (v_is (v_op (e_var rfl) (e_var rfl) o_sub) (by rw [eN])) (by omega) (by omega)) (fun i S1 => ∃ z, S1 = [.im (.tup (enc t)), .im (.int ((hn t : Nat) : Int)), .im (.int ((hn t + (ha t).length : Nat) : Int)), .ml (dI ((sts (hn t + (ha t).length + 1) (ha t)).take i)), .im (.int ((hn t + (ha t).length + 1 + sizes ((ha t).take i) : Nat) : Int)), z]) no
        ⟨.un, by simp [sizes, size]⟩ ?_ ?_ (fun _ h => h.elim)
      · rintro i d S1 hi ⟨z, rfl⟩
        obtain ⟨hi1, rfl⟩ := rng_at hi
        rw [Int.toNat_natCast] at hi1
        have ga := nth_get hi1
        have gd : ha t = (ha t).take i ++ nth (ha t) i :: (ha t).drop (i + 1) := by
          have e2 := List.getElem?_eq_some_iff.mp ga
          obtain ⟨q1, q2⟩ := e2
          rw [← q2, ← List.drop_eq_getElem_cons q1, List.take_append_drop]
        obtain ⟨P, e1, e2⟩ := opn_arg h1 gd
        have el : ((hn t + (ha t).length + 1 + sizes ((ha t).take i) : Nat) : Int) = ((P.length : Nat) : Int) := by rw [e2]
        refine ⟨_, tg_name, ?_⟩
        refine q_app rfl (e_var rfl) (by rw [dI_len, List.length_take, sts_len]; omega) ?_
        refine c_asg (v_call (⟨P, nth (ha t) i, encs ((ha t).drop (i + 1))⟩ : GEnd) (a_is (a_consV (e_var rfl) (a_consV (e_var rfl) a_nil)) (by simp only [aEnd]; rw [← e1, ← el])) trivial) ?_
        rintro d rfl
        refine ⟨.im (.int (i : Int)), ?_⟩
        rw [sts_take _ _ _ ga, dI_snoc]
        have e5 : P.length + size (nth (ha t) i) = hn t + (ha t).length + 1 + sizes ((ha t).take (i + 1)) := by
          rw [List.take_add_one, ga, sizes_app, e2]
          simp [sizes]; omega
        show [_, _, _, _, Sl.im (.int ((P.length + size (nth (ha t) i) : Nat) : Int)), _] = _
        rw [e5]
      · rintro S1 ⟨z, rfl⟩
        have e : (sts (hn t + (ha t).length + 1) (ha t)).take (rngD 0 (((ha t).length : Nat) : Int).toNat).length = sts (hn t + (ha t).length + 1) (ha t) := by
          rw [rngD_len, Int.toNat_natCast, List.take_of_length_le (by rw [sts_len]; omega)]
        rw [e]
        refine c_freeze (j := 3) rfl (c_retV (v_tup (ds := [_, _, _]) (a_consV (e_var rfl) (a_consV (e_var rfl) (a_consV (e_var rfl) a_nil)))) rfl)
theorem ok_opened {P : Program} {w : World} {K : PySem.W.Frag} {mg : Str → Option Value} {base : Heap} {C aI f : Addr} {fd : FuncData} (X : Tx K mg C aI) (F : Fun K "opened" "opened" s_opened f fd) (hm : mg "opened" = some (.ref f)) (D_end_of_head : Df P w K mg base 1 "end_of_head" ["term", "start"] (sp_end_of_head K C)) :
    Df P w K mg base 2 "opened" ["term"] (sp_opened K C) :=
  df_mk hm F.kp (F.binds fun _ _ _ _ _ _ us hl => match us, hl with | [_], _ => rfl) (F.ok sc_opened spG_len fun cdv A outer s H vs Q E hr h => ⟨t_opened K C, pss_cons (ps_set (i := 1) sc_opened.nd rfl (by first | exact Or.inl rfl | exact Or.inr rfl) (pe_int)) (pss_cons (ps_while PassesOwn.never (pt_cmpR (op_eq) (pe_ix ix_seq (pv 0) (pv 1) (fun _ _ => rfl)) (pe_str) (nomark _)) (pss_one (ps_aug (i := 1) sc_opened.nd rfl (by first | exact Or.inl rfl | exact Or.inr rfl) (pe_int) ip_add))) (pss_cons (ps_set (i := 2) sc_opened.nd rfl (by first | exact Or.inl rfl | exact Or.inr rfl) (pv 1)) (pss_cons (ps_while PassesOwn.never (pt_cmpR (op_eq) (pe_ix ix_seq (pv 0) (pv 2) (fun _ _ => rfl)) (pe_str) (nomark _)) (pss_one (ps_aug (i := 2) sc_opened.nd rfl (by first | exact Or.inl rfl | exact Or.inr rfl) (pe_int) ip_add))) (pss_cons (ps_set (i := 3) sc_opened.nd rfl (by first | exact Or.inl rfl | exact Or.inr rfl) (pe_lst (pa_nil))) (pss_cons (ps_set (i := 4) sc_opened.nd rfl (by first | exact Or.inl rfl | exact Or.inr rfl) (pe_own D_end_of_head (hr.mono (by decide)) (by rfl) (pa_cons (pv 0) (pa_cons (pv 2) (pa_nil))))) (pss_cons (ps_for PassesOwn.never rfl (pi_range1 (by rfl) X.range (pa_cons (pe_op op_sub (pv 2) (pv 1)) (pa_nil))) (pg_name (i := 5) sc_opened.nd rfl (by first | exact Or.inl rfl | exact Or.inr rfl)) (pss_cons (ps_expr (pe_bm PySem.F.plainAttrs_list PySem.F.slot_list_append PySem.F.type_list_append mt_append (pv 3) (pa_cons (pv 4) (pa_nil)))) (pss_one (ps_set (i := 4) sc_opened.nd rfl (by first | exact Or.inl rfl | exact Or.inr rfl) (pe_own D_end_of_head (hr.mono (by decide)) (by rfl) (pa_cons (pv 0) (pa_cons (pv 4) (pa_nil)))))))) (pss_one (ps_ret (pe_tup (pa_cons (pv 1) (pa_cons (pv 2) (pa_cons (pv 3) (pa_nil))))))))))))), run_of (E := E) (c_opened K C) h⟩)
abbrev dHead (t : Tm) : D := .tup [.int ((hn t : Nat) : Int), .int ((hv t : Nat) : Int), .lst (dT (ha t))]
def sp_head (K : PySem.W.Frag) (C : Addr) : Sp := spG K C 1 (fun t : Tm => [.im (.tup (enc t))]) (fun t => size t < 1000000 ∧ nf t = true) (fun t d => d = dHead t)
abbrev s_head : Stmt := topS 22
abbrev n_head : List Str := ["term", "count", "at", "starts", "start"]
theorem sc_head : FnScope n_head ["term"] (defScope s_head) := ⟨rfl, rfl, rfl, by decide +kernel, rfl, by decide +kernel, by decide +kernel⟩
-- calls: ['end_of', 'opened']; level 3; slots: 0:term 1:count 2:at 3:starts 4:start
def t_head (K : PySem.W.Frag) (C : Addr) : TS := tSeq (tAsg (tCall (sp_opened K C) [] E0 (tCons (tVar 0) (tNil))) (gTup K 3 (gCons (gName 1) (gCons (gName 2) (gCons (gName 3) (gNil)))))) (tSeq (tIfS (tNot (tB (tIsi K (tOp (rIx K) (tVar 0) (tVar 2)) "int"))) (tRet (tC .non)) (tNext)) (tRet (tTup (tCons (tVar 1) (tCons (tOp (rIx K) (tVar 0) (tVar 2)) (tCons (tLc (iList K (tVar 3)) (gName 4) (tYes) (tSl (rSlA K) (tVar 0) (tPart (tVar 4)) (tPart (tCall (sp_end_of K C) [] E0 (tCons (tVar 0) (tCons (tVar 4) (tNil)))))) [4]) (tNil)))))))
def argF (s : Nat) (as : List Tm) (d : D) : D := match d with
  | .int k => .tup (argAt s as k.toNat)
  | y => y
theorem argF_map (s : Nat) (as : List Tm) : (dI (sts s as)).map (argF s as) = dT as := by
  have := congrArg (List.map D.tup) (sts_arg as s)
  rw [List.map_map, List.map_map] at this
  unfold dI dT
  rw [List.map_map]
  exact this
theorem c_head (K : PySem.W.Frag) (C : Addr) (t : Tm) (hp : size t < 1000000 ∧ nf t = true) (_ : ([.im (.tup (enc t))] : List Sl).length = 1) :
    CmD K C (t_head K C) ([.im (.tup (enc t))] ++ List.replicate (n_head.length - 1) .un) (fun _ => (.non : D) = dHead t) (fun d => d = dHead t) no no := by
  obtain ⟨h0, h1⟩ := hp
  have hsz := size_open h1
  have hlen := sizes_len (ha t)
  refine q_tg (v_call t (a_consV (e_var rfl) a_nil) ⟨h0, h1⟩) tg_three ?_
  refine q_no (t_notV (a := true) (t_bV (v_isiI (v_op (e_var rfl) (e_var rfl) (o_ixT (opn_var h1 rfl)))))) (q_next ?_)
  refine c_retV (v_tup (ds := [_, _, _]) (a_consV (e_var rfl) (a_consV (v_op (e_var rfl) (e_var rfl) (o_ixT (opn_var h1 rfl))) (a_consV (v_is (v_lcs (argF (hn t + (ha t).length + 1) (ha t)) (it_list (e_var (i := 3) rfl)) rfl (fun d hd => ?_) (by rw [dI_len, sts_len]; omega)) (by rw [argF_map])) a_nil)))) rfl
  obtain ⟨k, hk, rfl⟩ := List.mem_map.mp hd
  obtain ⟨pre, a, post, e1, e2, e3⟩ := sts_at hk
  obtain ⟨P, e4, e5⟩ := opn_arg h1 e1
  have e6 : ((k : Nat) : Int) = ((P.length : Nat) : Int) := by rw [e2, e5]
  have e7 : argF (hn t + (ha t).length + 1) (ha t) (.int (k : Int)) = .tup (enc a) := by
    simp only [argF, Int.toNat_natCast]
    rw [e3]
  rw [e7]
  refine v_is (v_slice (e_var rfl) (po_yes (e_var (i := 4) rfl)) (po_yes (v_call (⟨P, a, encs post⟩ : GEnd) (a_is (a_consV (e_var rfl) (a_consV (e_var rfl) a_nil)) (by simp only [aEnd]; rw [← e4, ← e6])) trivial))) ?_
  rw [cut_mid e4 e6 (by rw [enc_len])]
theorem ok_head {P : Program} {w : World} {K : PySem.W.Frag} {mg : Str → Option Value} {base : Heap} {C aI f : Addr} {fd : FuncData} (X : Tx K mg C aI) (F : Fun K "head" "head" s_head f fd) (hm : mg "head" = some (.ref f)) (D_end_of : Df P w K mg base 1 "end_of" ["nodes", "start"] (sp_end_of K C)) (D_opened : Df P w K mg base 2 "opened" ["term"] (sp_opened K C)) :
    Df P w K mg base 3 "head" ["term"] (sp_head K C) :=
  df_mk hm F.kp (F.binds fun _ _ _ _ _ _ us hl => match us, hl with | [_], _ => rfl) (F.ok sc_head spG_len fun cdv A outer s H vs Q E hr h => ⟨t_head K C, pss_cons (ps_asg (pe_own D_opened (hr.mono (by decide)) (by rfl) (pa_cons (pv 0) (pa_nil))) (pg_tup rfl (pgs_cons (pg_name (i := 1) sc_head.nd rfl (by first | exact Or.inl rfl | exact Or.inr rfl)) (pgs_cons (pg_name (i := 2) sc_head.nd rfl (by first | exact Or.inl rfl | exact Or.inr rfl)) (pgs_cons (pg_name (i := 3) sc_head.nd rfl (by first | exact Or.inl rfl | exact Or.inr rfl)) (pgs_nil)))))) (pss_cons (ps_if (pt_not (pt_val (pe_callB call_isi (by rfl) X.isinstance (by decide +kernel) (pa_cons (pe_ix ix_seq (pv 0) (pv 2) (fun _ _ => rfl)) (pa_cons (pe_bltn (v := .ty "int") (by rfl) X.int (by decide +kernel) rfl) pa_nil))))) (pss_one (ps_ret (pe_non))) (pss_nil)) (pss_one (ps_ret (pe_tup (pa_cons (pv 1) (pa_cons (pe_ix ix_seq (pv 0) (pv 2) (fun _ _ => rfl)) (pa_cons (pe_lc (own := [("start", 4)]) (g := gName 4) rfl sc_head.nd (pi_list (pv 3)) (blkOk_by (own := [("start", 4)]) (N := n_head) (sc := defScope s_head) (by decide +kernel)) (fun _ _ _ _ _ => pg_name (i := 4) sc_head.nd rfl (by first | exact Or.inl rfl | exact Or.inr rfl)) (fun _ _ _ _ _ => pts_nil) (fun _ _ _ _ _ => pe_slice sl_tupA (pv 0) (po_some (pv 4)) (po_some (pe_own D_end_of (hr.mono (by decide)) (by rfl) (pa_cons (pv 0) (pa_cons (pv 4) (pa_nil))))))) (pa_nil)))))))), run_of (E := E) (c_head K C) h⟩)
end Wk
end
section
set_option Elab.async false
set_option autoImplicit false
set_option linter.all false
set_option maxRecDepth 100000
set_option maxHeartbeats 4000000
/-! stretched, most_abstractions, look, same_heads, check_crowd, next_turn, turns. -/
namespace Wk
open PySem L2 Dl Dx Lam
abbrev dH (p : Hd) : D := .tup [.int ((p.1 : Nat) : Int), .lst (dT p.2)]
abbrev tmD (t : Tm) : D := .tup (enc t)
structure PStr (g : GLift) : Prop where
  n : nf g.t = true
  h : hn g.t ≤ g.c
  s : size g.t ≤ 1000
  c : g.c ≤ 10000
  k : cl 100000 g.t
def sp_stretched (K : PySem.W.Frag) (C : Addr) : Sp := spG K C 2 aLift PStr (fun g d => d = dH (stn g.c g.t))
abbrev s_stretched : Stmt := topS 30
abbrev n_stretched : List Str := ["term", "count", "more", "found", "number", "abstractions", "variable", "arguments", "argument"]
theorem sc_stretched : FnScope n_stretched ["term", "count"] (defScope s_stretched) := ⟨rfl, rfl, rfl, by decide +kernel, rfl, by decide +kernel, by decide +kernel⟩
-- calls: ['head', 'lift']; level 4; slots: 0:term 1:count 2:more 3:found 4:number 5:abstractions 6:variable 7:arguments 8:argument
def t_stretched (K : PySem.W.Frag) (C : Addr) : TS := tSeq (tAsg (tCall (sp_head K C) [] E0 (tCons (tVar 0) (tNil))) (gTup K 3 (gCons (gName 5) (gCons (gName 6) (gCons (gName 7) (gNil)))))) (tSeq (tAsg (tOp (rSubI) (tVar 1) (tVar 5)) (gName 2)) (tSeq (tIfS (tTest (tOp (rGtI) (tOp (rAddI) (tVar 6) (tVar 2)) (tC (.int 1000000)))) (tNever) (tNext)) (tSeq (tAsg (tLc (iList K (tVar 7)) (gName 8) (tYes) (tCall (sp_lift K C) [] E0 (tCons (tVar 8) (tCons (tVar 2) (tNil)))) [8]) (gName 3)) (tSeq (tFor (iRng3 (tCons (tOp (rSubI) (tVar 2) (tC (.int 1))) (tCons (tUn (rU fun i => .int (-i)) (tC (.int 1))) (tCons (tUn (rU fun i => .int (-i)) (tC (.int 1))) (tNil))))) (gName 4) (tDrop (tBM K "list" (rAppend) (tVar 3) (tCons (tTup (tCons (tVar 4) (tNil))) (tNil))))) (tRet (tTup (tCons (tOp (rAddI) (tVar 6) (tVar 2)) (tCons (tVar 3) (tNil)))))))))
theorem dT_app (as bs : List Tm) : dT (as ++ bs) = dT as ++ dT bs := by simp [dT]
theorem dn_get : ∀ {n k : Nat}, k < n → (dn n)[k]? = some (.var (n - 1 - k))
  | n + 1, 0, _ => by simp [dn]
  | n + 1, k + 1, h => by
    simp only [dn, List.getElem?_cons_succ]
    rw [dn_get (by omega)]
    congr 2
    omega
theorem c_stretched (K : PySem.W.Frag) (C : Addr) (g : GLift) (hp : PStr g) (_ : (aLift g).length = 2) :
    CmD K C (t_stretched K C) (aLift g ++ List.replicate (n_stretched.length - 2) .un) (fun _ => (.non : D) = dH (stn g.c g.t)) (fun d => d = dH (stn g.c g.t)) no no := by
  obtain ⟨t, c⟩ := g
  obtain ⟨h1, h2, h3, h4, h5⟩ := hp
  simp only at h1 h2 h3 h4 h5
  have hsz := size_open h1
  have hlen := sizes_len (ha t)
  obtain ⟨k1, k2⟩ := ha_cl h1 h5
  have em : ((c : Nat) : Int) - ((hn t : Nat) : Int) = ((c - hn t : Nat) : Int) := by omega
  refine q_tg (v_call t (a_consV (e_var rfl) a_nil) ⟨by omega, h1⟩) tg_three ?_
  refine q_set (v_is (v_op (e_var rfl) (e_var rfl) o_sub) (by rw [em])) ?_
  refine q_no (ts_is (t_testV (v_op (v_op (e_var rfl) (e_var rfl) o_add) e_int o_gt)) (dec_ff (by omega))) (q_next ?_)
  refine q_own (n_lcG (as := ha t) (g := tmD) (f := fun a => tmD (lift (c - hn t) a)) (it_list (e_var (i := 7) rfl)) rfl (fun a ha' => ?_) (by omega)) ?_
  · have h6 := sizes_mem ha'
    have h7 := cl_vle (cl_lift (c := c - hn t) (k2 a ha'))
    rw [size_lift] at h7
    exact v_call (⟨a, c - hn t⟩ : GLift) (a_consV (e_var rfl) (a_consV (e_var rfl) a_nil)) ⟨by show size a ≤ 1000; omega, vle_mono h7 (by omega)⟩
  · rintro acc rfl
    refine q_for (it_down (n := c - hn t) (v_op (e_var rfl) e_int o_sub) (v_neg e_int) (v_neg e_int) (by omega)) (fun i S1 => ∃ z, S1 = [.im (.tup (enc t)), .im (.int (c : Int)), .im (.int ((c - hn t : Nat) : Int)), .ml (dT ((ha t).map (lift (c - hn t)) ++ (dn (c - hn t)).take i)), z, .im (.int ((hn t : Nat) : Int)), .im (.int ((hv t : Nat) : Int)), .im (.lst (dT (ha t))), .un]) no
      ⟨.un, by simp [dT, tmD, Function.comp_def]⟩ ?_ ?_ (fun _ h => h.elim)
    · rintro i d S1 hi ⟨z, rfl⟩
      obtain ⟨hi1, rfl⟩ := dwnD_get hi
      refine ⟨_, tg_name, ?_⟩
      refine c_app (d := tmD (.var (c - hn t - 1 - i))) rfl (v_is (v_tup (ds := [.int (((c - hn t : Nat) : Int) - 1 - (i : Int))]) (a_consV (e_var rfl) a_nil)) ?_) ?_ ⟨.im (.int (((c - hn t : Nat) : Int) - 1 - (i : Int))), ?_⟩
      · simp only [tmD, enc]
        rw [show ((c - hn t : Nat) : Int) - 1 - (i : Int) = ((c - hn t - 1 - i : Nat) : Int) by omega]
      · simp only [dT, List.length_map, List.length_append, List.length_take, dn_len]; omega
      · rw [List.take_add_one, dn_get hi1, ← List.append_assoc, dT_app _ (some (Tm.var (c - hn t - 1 - i))).toList]
        rfl
    · rintro S1 ⟨z, rfl⟩
      rw [dwnD_len, List.take_of_length_le (by rw [dn_len]; omega)]
      refine c_freeze (j := 3) rfl (c_retV (v_is (v_tup (ds := [_, _]) (a_consV (v_op (e_var rfl) (e_var rfl) o_add) (a_consV (e_var rfl) a_nil))) ?_) rfl)
      simp only [dH, stn]
      rw [show ((hv t : Nat) : Int) + ((c - hn t : Nat) : Int) = ((hv t + (c - hn t) : Nat) : Int) by omega]
theorem ok_stretched {P : Program} {w : World} {K : PySem.W.Frag} {mg : Str → Option Value} {base : Heap} {C aI f : Addr} {fd : FuncData} (X : Tx K mg C aI) (F : Fun K "stretched" "stretched" s_stretched f fd) (hm : mg "stretched" = some (.ref f)) (D_head : Df P w K mg base 3 "head" ["term"] (sp_head K C)) (D_lift : Df P w K mg base 3 "lift" ["term", "count"] (sp_lift K C)) :
    Df P w K mg base 4 "stretched" ["term", "count"] (sp_stretched K C) :=
  df_mk hm F.kp (F.binds fun _ _ _ _ _ _ us hl => match us, hl with | [_, _], _ => rfl) (F.ok sc_stretched spG_len fun cdv A outer s H vs Q E hr h => ⟨t_stretched K C, pss_cons (ps_asg (pe_own D_head (hr.mono (by decide)) (by rfl) (pa_cons (pv 0) (pa_nil))) (pg_tup rfl (pgs_cons (pg_name (i := 5) sc_stretched.nd rfl (by first | exact Or.inl rfl | exact Or.inr rfl)) (pgs_cons (pg_name (i := 6) sc_stretched.nd rfl (by first | exact Or.inl rfl | exact Or.inr rfl)) (pgs_cons (pg_name (i := 7) sc_stretched.nd rfl (by first | exact Or.inl rfl | exact Or.inr rfl)) (pgs_nil)))))) (pss_cons (ps_set (i := 2) sc_stretched.nd rfl (by first | exact Or.inl rfl | exact Or.inr rfl) (pe_op op_sub (pv 1) (pv 5))) (pss_cons (ps_if (pt_cmpR (op_gt) (pe_op op_add (pv 6) (pv 2)) (pe_globI (by rfl) X.MOST_VARIABLE) (nomark _)) (pss_one (ps_never)) (pss_nil)) (pss_cons (ps_setLc (i := 3) (own := [("argument", 8)]) (g := gName 8) rfl sc_stretched.nd rfl rfl (sw_true rfl rfl rfl (by decide +kernel)) (pi_list (pv 7)) (blkOk_by (own := [("argument", 8)]) (N := n_stretched) (sc := defScope s_stretched) (by decide +kernel)) (fun _ _ _ _ _ => pg_name (i := 8) sc_stretched.nd rfl (by first | exact Or.inl rfl | exact Or.inr rfl)) (fun _ _ _ _ _ => pts_nil) (fun _ _ _ _ _ => pe_own D_lift (hr.mono (by decide)) (by rfl) (pa_cons (pv 8) (pa_cons (pv 2) (pa_nil))))) (pss_cons (ps_for PassesOwn.never rfl (pi_range3 (by rfl) X.range (pa_cons (pe_op op_sub (pv 2) (pe_int)) (pa_cons (pe_un un_neg (pe_int)) (pa_cons (pe_un un_neg (pe_int)) (pa_nil))))) (pg_name (i := 4) sc_stretched.nd rfl (by first | exact Or.inl rfl | exact Or.inr rfl)) (pss_one (ps_expr (pe_bm PySem.F.plainAttrs_list PySem.F.slot_list_append PySem.F.type_list_append mt_append (pv 3) (pa_cons (pe_tup (pa_cons (pv 4) (pa_nil))) (pa_nil)))))) (pss_one (ps_ret (pe_tup (pa_cons (pe_op op_add (pv 6) (pv 2)) (pa_cons (pv 3) (pa_nil)))))))))), run_of (E := E) (c_stretched K C) h⟩)
structure G2 where
  t : Tm
  u : Tm
abbrev a2 (g : G2) : List Sl := [.im (.lst (dT [g.t, g.u]))]
structure PMost (g : G2) : Prop where
  nt : nf g.t = true
  nu : nf g.u = true
  st : size g.t ≤ 1000
  su : size g.u ≤ 1000
def sp_most_abstractions (K : PySem.W.Frag) (C : Addr) : Sp := spG K C 1 a2 PMost (fun g d => d = .int ((mx g.t g.u : Nat) : Int))
abbrev s_most_abstractions : Stmt := topS 31
abbrev n_most_abstractions : List Str := ["terms", "term"]
theorem sc_most_abstractions : FnScope n_most_abstractions ["terms"] (defScope s_most_abstractions) := ⟨rfl, rfl, rfl, by decide +kernel, rfl, by decide +kernel, by decide +kernel⟩
-- calls: ['head']; level 4; slots: 0:terms 1:term
def t_most_abstractions (K : PySem.W.Frag) (C : Addr) : TS := tRet (tCB (rMax K) (tCons (tLc (iList K (tVar 0)) (gName 1) (tYes) (tOp (rIx K) (tCall (sp_head K C) [] E0 (tCons (tVar 1) (tNil))) (tC (.int 0))) [1]) (tNil)))
theorem c_most_abstractions (K : PySem.W.Frag) (C : Addr) (g : G2) (hp : PMost g) (_ : (a2 g).length = 1) :
    CmD K C (t_most_abstractions K C) (a2 g ++ List.replicate (n_most_abstractions.length - 1) .un) (fun _ => (.non : D) = .int ((mx g.t g.u : Nat) : Int)) (fun d => d = .int ((mx g.t g.u : Nat) : Int)) no no := by
  obtain ⟨t, u⟩ := g
  obtain ⟨h1, h2, h3, h4⟩ := hp
  simp only at h1 h2 h3 h4
  refine c_retV (v_cb (ds := [.lst ([((hn t : Nat) : Int), ((hn u : Nat) : Int)].map D.int)]) (a_consV (v_lcG (as := [t, u]) (g := tmD) (f := fun a => .int ((hn a : Nat) : Int)) (it_list (e_var rfl)) rfl (fun a ha => ?_) (by simp)) a_nil) (k_max (m := ((mx t u : Nat) : Int)) ?_ ?_)) rfl
  · have h5 : nf a = true ∧ size a ≤ 1000 := by
      rcases List.mem_cons.mp ha with rfl | ha
      · exact ⟨h1, h3⟩
      · rcases List.mem_cons.mp ha with rfl | ha
        · exact ⟨h2, h4⟩
        · cases ha
    exact v_op (v_call a (a_consV (e_var rfl) a_nil) ⟨by omega, h5.1⟩) e_int (o_ixT (atI_pos (n := 0) rfl))
  · simp only [mx, List.mem_cons, List.not_mem_nil, or_false]; omega
  · intro y hy
    simp only [List.mem_cons, List.not_mem_nil, or_false] at hy
    simp only [mx]; omega
theorem ok_most_abstractions {P : Program} {w : World} {K : PySem.W.Frag} {mg : Str → Option Value} {base : Heap} {C aI f : Addr} {fd : FuncData} (X : Tx K mg C aI) (F : Fun K "most_abstractions" "most_abstractions" s_most_abstractions f fd) (hm : mg "most_abstractions" = some (.ref f)) (D_head : Df P w K mg base 3 "head" ["term"] (sp_head K C)) :
    Df P w K mg base 4 "most_abstractions" ["terms"] (sp_most_abstractions K C) :=
  df_mk hm F.kp (F.binds fun _ _ _ _ _ _ us hl => match us, hl with | [_], _ => rfl) (F.ok sc_most_abstractions spG_len fun cdv A outer s H vs Q E hr h => ⟨t_most_abstractions K C, pss_one (ps_ret (pe_callB (cr_max rfl) (by rfl) X.max (by decide +kernel) (pa_cons (pe_lc (own := [("term", 1)]) (g := gName 1) rfl sc_most_abstractions.nd (pi_list (pv 0)) (blkOk_by (own := [("term", 1)]) (N := n_most_abstractions) (sc := defScope s_most_abstractions) (by decide +kernel)) (fun _ _ _ _ _ => pg_name (i := 1) sc_most_abstractions.nd rfl (by first | exact Or.inl rfl | exact Or.inr rfl)) (fun _ _ _ _ _ => pts_nil) (fun _ _ _ _ _ => pe_ix ix_seq (pe_own D_head (hr.mono (by decide)) (by rfl) (pa_cons (pv 1) (pa_nil))) (pe_int) (fun _ _ => rfl))) (pa_nil)))), run_of (E := E) (c_most_abstractions K C) h⟩)
structure PLook (g : G2) : Prop extends PMost g where
  ct : cl 100000 g.t
  cu : cl 100000 g.u
abbrev dLook (t u : Tm) : D := .lst [dH (stn (mx t u) t), dH (stn (mx t u) u)]
def sp_look (K : PySem.W.Frag) (C : Addr) : Sp := spG K C 1 a2 PLook (fun g d => d = dLook g.t g.u)
abbrev s_look : Stmt := topS 32
abbrev n_look : List Str := ["terms", "count", "term"]
theorem sc_look : FnScope n_look ["terms"] (defScope s_look) := ⟨rfl, rfl, rfl, by decide +kernel, rfl, by decide +kernel, by decide +kernel⟩
-- calls: ['most_abstractions', 'stretched']; level 5; slots: 0:terms 1:count 2:term
def t_look (K : PySem.W.Frag) (C : Addr) : TS := tSeq (tAsg (tCall (sp_most_abstractions K C) [] E0 (tCons (tVar 0) (tNil))) (gName 1)) (tRet (tLc (iList K (tVar 0)) (gName 2) (tYes) (tCall (sp_stretched K C) [] E0 (tCons (tVar 2) (tCons (tVar 1) (tNil)))) [2]))
theorem c_look (K : PySem.W.Frag) (C : Addr) (g : G2) (hp : PLook g) (_ : (a2 g).length = 1) :
    CmD K C (t_look K C) (a2 g ++ List.replicate (n_look.length - 1) .un) (fun _ => (.non : D) = dLook g.t g.u) (fun d => d = dLook g.t g.u) no no := by
  obtain ⟨t, u⟩ := g
  obtain ⟨⟨h1, h2, h3, h4⟩, h5, h6⟩ := hp
  simp only at h1 h2 h3 h4 h5 h6
  refine q_setE (v_call (⟨t, u⟩ : G2) (a_consV (e_var rfl) a_nil) ⟨h1, h2, h3, h4⟩) ?_
  rintro d rfl
  refine c_retV (v_lcG (as := [t, u]) (g := tmD) (f := fun a => dH (stn (mx t u) a)) (it_list (e_var rfl)) rfl (fun a ha => ?_) (by simp)) rfl
  have h7 := size_open h1
  have h8 := size_open h2
  have h9 : PStr ⟨a, mx t u⟩ := by
    rcases List.mem_cons.mp ha with rfl | ha
    · exact ⟨h1, by simp only [mx]; omega, h3, by simp only [mx]; omega, h5⟩
    · rcases List.mem_cons.mp ha with rfl | ha
      · exact ⟨h2, by simp only [mx]; omega, h4, by simp only [mx]; omega, h6⟩
      · cases ha
  exact v_call (⟨a, mx t u⟩ : GLift) (a_consV (e_var rfl) (a_consV (e_var rfl) a_nil)) h9
theorem ok_look {P : Program} {w : World} {K : PySem.W.Frag} {mg : Str → Option Value} {base : Heap} {C aI f : Addr} {fd : FuncData} (X : Tx K mg C aI) (F : Fun K "look" "look" s_look f fd) (hm : mg "look" = some (.ref f)) (D_most_abstractions : Df P w K mg base 4 "most_abstractions" ["terms"] (sp_most_abstractions K C)) (D_stretched : Df P w K mg base 4 "stretched" ["term", "count"] (sp_stretched K C)) :
    Df P w K mg base 5 "look" ["terms"] (sp_look K C) :=
  df_mk hm F.kp (F.binds fun _ _ _ _ _ _ us hl => match us, hl with | [_], _ => rfl) (F.ok sc_look spG_len fun cdv A outer s H vs Q E hr h => ⟨t_look K C, pss_cons (ps_set (i := 1) sc_look.nd rfl (by first | exact Or.inl rfl | exact Or.inr rfl) (pe_own D_most_abstractions (hr.mono (by decide)) (by rfl) (pa_cons (pv 0) (pa_nil)))) (pss_one (ps_ret (pe_lc (own := [("term", 2)]) (g := gName 2) rfl sc_look.nd (pi_list (pv 0)) (blkOk_by (own := [("term", 2)]) (N := n_look) (sc := defScope s_look) (by decide +kernel)) (fun _ _ _ _ _ => pg_name (i := 2) sc_look.nd rfl (by first | exact Or.inl rfl | exact Or.inr rfl)) (fun _ _ _ _ _ => pts_nil) (fun _ _ _ _ _ => pe_own D_stretched (hr.mono (by decide)) (by rfl) (pa_cons (pv 2) (pa_cons (pv 1) (pa_nil))))))), run_of (E := E) (c_look K C) h⟩)
structure GH where
  p : Hd
  q : Hd
abbrev aH (g : GH) : List Sl := [.im (.lst [dH g.p, dH g.q])]
def sp_same_heads (K : PySem.W.Frag) (C : Addr) : Sp := spG K C 1 aH (fun _ => True) (fun g d => d = .bl (alike g.p g.q))
abbrev s_same_heads : Stmt := topS 33
abbrev n_same_heads : List Str := ["heads", "variable", "arguments", "other"]
theorem sc_same_heads : FnScope n_same_heads ["heads"] (defScope s_same_heads) := ⟨rfl, rfl, rfl, by decide +kernel, rfl, by decide +kernel, by decide +kernel⟩
-- calls: []; level 1; slots: 0:heads 1:variable 2:arguments 3:other
def t_same_heads (K : PySem.W.Frag) (C : Addr) : TS := tSeq (tAsg (tOp (rIx K) (tVar 0) (tC (.int 0))) (gTup K 2 (gCons (gName 1) (gCons (gName 2) (gNil))))) (tRet (tCB (rAll K) (tCons (tLc (iList K (tVar 0)) (gName 3) (tYes) (tAndV (tOp (rEq) (tOp (rIx K) (tVar 3) (tC (.int 0))) (tVar 1)) (tOp (rEq) (tCB (rLenS K) (tCons (tOp (rIx K) (tVar 3) (tC (.int 1))) (tNil))) (tCB (rLenS K) (tCons (tVar 2) (tNil))))) [3]) (tNil))))
theorem dT_len (as : List Tm) : (dT as).length = as.length := by simp [dT]
theorem c_same_heads (K : PySem.W.Frag) (C : Addr) (g : GH) (_ : True) (_ : (aH g).length = 1) :
    CmD K C (t_same_heads K C) (aH g ++ List.replicate (n_same_heads.length - 1) .un) (fun _ => (.non : D) = .bl (alike g.p g.q)) (fun d => d = .bl (alike g.p g.q)) no no := by
  obtain ⟨p, q⟩ := g
  refine q_tg (v_op (e_var rfl) e_int (o_ixL (d := dH p) (atI_pos (n := 0) rfl))) tg_two ?_
  refine c_retV (v_cb (ds := [.lst ([alike p p, alike p q].map D.bl)]) (a_consV (v_lcG (as := [p, q]) (g := dH) (f := fun x => .bl (alike p x)) (it_list (e_var rfl)) rfl (fun a ha => ?_) (by simp)) a_nil) k_all) (by simp [alike])
  refine e_andV (a := decide (((a.1 : Nat) : Int) = ((p.1 : Nat) : Int))) (v_op (v_op (e_var rfl) e_int (o_ixT (atI_pos (n := 0) rfl))) (e_var rfl) o_eqII) (fun hb => ?_) (fun hb => ?_)
  · have e : a.1 = p.1 := by have := of_decide_eq_true hb; omega
    refine v_is (v_op (v_cb (ds := [.lst (dT a.2)]) (a_consV (v_op (e_var rfl) e_int (o_ixT (atI_pos (n := 1) rfl))) a_nil) k_lenL) (v_cb (ds := [.lst (dT p.2)]) (a_consV (e_var rfl) a_nil) k_lenL) o_eqII) ?_
    rw [dT_len, dT_len]
    simp only [alike, e, beq_self_eq_true, Bool.true_and]
    congr 1
    rw [Bool.eq_iff_iff]
    simp only [decide_eq_true_eq, beq_iff_eq]
    omega
  · have e : ¬ (a.1 = p.1) := fun z => by rw [z] at hb; simp at hb
    simp only [alike, Bool.and_eq_false_iff, beq_eq_false_iff_ne]
    exact .inl fun z => e z.symm
theorem ok_same_heads {P : Program} {w : World} {K : PySem.W.Frag} {mg : Str → Option Value} {base : Heap} {C aI f : Addr} {fd : FuncData} (X : Tx K mg C aI) (F : Fun K "same_heads" "same_heads" s_same_heads f fd) (hm : mg "same_heads" = some (.ref f))  :
    Df P w K mg base 1 "same_heads" ["heads"] (sp_same_heads K C) :=
  df_mk hm F.kp (F.binds fun _ _ _ _ _ _ us hl => match us, hl with | [_], _ => rfl) (F.ok sc_same_heads spG_len fun cdv A outer s H vs Q E hr h => ⟨t_same_heads K C, pss_cons (ps_asg (pe_ix ix_seq (pv 0) (pe_int) (fun _ _ => rfl)) (pg_tup rfl (pgs_cons (pg_name (i := 1) sc_same_heads.nd rfl (by first | exact Or.inl rfl | exact Or.inr rfl)) (pgs_cons (pg_name (i := 2) sc_same_heads.nd rfl (by first | exact Or.inl rfl | exact Or.inr rfl)) (pgs_nil))))) (pss_one (ps_ret (pe_callB (cr_all rfl) (by rfl) X.all (by decide +kernel) (pa_cons (pe_lc (own := [("other", 3)]) (g := gName 3) rfl sc_same_heads.nd (pi_list (pv 0)) (blkOk_by (own := [("other", 3)]) (N := n_same_heads) (sc := defScope s_same_heads) (by decide +kernel)) (fun _ _ _ _ _ => pg_name (i := 3) sc_same_heads.nd rfl (by first | exact Or.inl rfl | exact Or.inr rfl)) (fun _ _ _ _ _ => pts_nil) (fun _ _ _ _ _ => pe_and (pe_cmpR (op_eq) (pe_ix ix_seq (pv 3) (pe_int) (fun _ _ => rfl)) (pv 1) (nomark _)) (pe_one (pe_cmpR (op_eq) (pe_callB call_len_seq (by rfl) X.len (by decide +kernel) (pa_cons (pe_ix ix_seq (pv 3) (pe_int) (fun _ _ => rfl)) (pa_nil))) (pe_callB call_len_seq (by rfl) X.len (by decide +kernel) (pa_cons (pv 2) (pa_nil))) (nomark _))))) (pa_nil))))), run_of (E := E) (c_same_heads K C) h⟩)
structure PCrowd (g : G2) : Prop where
  two : Two 40 0 g.t g.u
def sp_check_crowd (K : PySem.W.Frag) (C : Addr) : Sp := spG K C 1 a2 PCrowd (fun _ d => d = .non)
abbrev s_check_crowd : Stmt := topS 35
abbrev n_check_crowd : List Str := ["terms", "term"]
theorem sc_check_crowd : FnScope n_check_crowd ["terms"] (defScope s_check_crowd) := ⟨rfl, rfl, rfl, by decide +kernel, rfl, by decide +kernel, by decide +kernel⟩
-- calls: ['free', 'is_fully_normal']; level 5; slots: 0:terms 1:term
def t_check_crowd (K : PySem.W.Frag) (C : Addr) : TS := tSeq (tIfS (tNot (tTest (tChain rLeI rLeI (tC (.int 2)) (tCB (rLenS K) (tCons (tVar 0) (tNil))) (tC (.int 12))))) (tNever) (tNext)) (tFor (iList K (tVar 0)) (gName 1) (tIfS (tOr (tTrue K (tCall (sp_free K C) [] E0 (tCons (tVar 1) (tNil)))) (tNot (tB (tCall (sp_is_fully_normal K C) [] E0 (tCons (tVar 1) (tNil)))))) (tNever) (tNext)))
theorem c_check_crowd (K : PySem.W.Frag) (C : Addr) (g : G2) (hp : PCrowd g) (_ : (a2 g).length = 1) :
    CmD K C (t_check_crowd K C) (a2 g ++ List.replicate (n_check_crowd.length - 1) .un) (fun _ => (.non : D) = .non) (fun d => d = .non) no no := by
  obtain ⟨t, u⟩ := g
  obtain ⟨h⟩ := hp
  simp only at h
  refine q_no (t_notV (a := true) (t_testV (v_chain (b := true) (c := true) e_int (v_cb (ds := [.lst (dT [t, u])]) (a_consV (e_var rfl) a_nil) k_lenL) o_le (fun _ => e_int) (fun _ => o_le) (fun e => by cases e)))) (q_next ?_)
  refine c_forR (it_list (e_var rfl)) (fun r S1 => ∃ as z, r = dT as ∧ (∀ a ∈ as, cl 0 a ∧ nf a = true ∧ en a = true ∧ size a ≤ 40) ∧ S1 = [.im (.lst (dT [t, u])), z]) ⟨[t, u], .un, rfl, ?_, rfl⟩ ?_ (fun _ _ => rfl)
  · intro a ha
    rcases List.mem_cons.mp ha with rfl | ha
    · exact ⟨h.ct, h.nt, h.et, h.st⟩
    · rcases List.mem_cons.mp ha with rfl | ha
      · exact ⟨h.cu, h.nu, h.eu, h.su⟩
      · cases ha
  · rintro d r S1 ⟨as, z, er, hall, rfl⟩
    cases as with
    | nil => cases er
    | cons a as =>
      simp only [dT, List.map_cons, List.cons.injEq] at er
      obtain ⟨rfl, rfl⟩ := er
      obtain ⟨h1, h2, h3, h4⟩ := hall a List.mem_cons_self
      refine ⟨_, tg_name, ?_⟩
      exact c_no (ts_is (t_orV (a := false) (b := false) (t_trueL (ds := []) (v_call a (a_consV (e_var rfl) a_nil) ⟨by omega, h1⟩)) fun _ => t_notV (a := true) (t_bV (v_call a (a_consV (e_var rfl) a_nil) ⟨by omega, h2, h3⟩))) rfl) (c_next ⟨as, .im (tmD a), rfl, fun b hb => hall b (List.mem_cons_of_mem _ hb), rfl⟩)
theorem ok_check_crowd {P : Program} {w : World} {K : PySem.W.Frag} {mg : Str → Option Value} {base : Heap} {C aI f : Addr} {fd : FuncData} (X : Tx K mg C aI) (F : Fun K "check_crowd" "check_crowd" s_check_crowd f fd) (hm : mg "check_crowd" = some (.ref f)) (D_free : Df P w K mg base 2 "free" ["term"] (sp_free K C)) (D_is_fully_normal : Df P w K mg base 4 "is_fully_normal" ["term"] (sp_is_fully_normal K C)) :
    Df P w K mg base 5 "check_crowd" ["terms"] (sp_check_crowd K C) :=
  df_mk hm F.kp (F.binds fun _ _ _ _ _ _ us hl => match us, hl with | [_], _ => rfl) (F.ok sc_check_crowd spG_len fun cdv A outer s H vs Q E hr h => ⟨t_check_crowd K C, pss_cons (ps_if (pt_not (pt_chain op_le op_le (pe_int) (pe_callB call_len_seq (by rfl) X.len (by decide +kernel) (pa_cons (pv 0) (pa_nil))) (pe_globI (by rfl) X.MOST_CROWD))) (pss_one (ps_never)) (pss_nil)) (pss_one (ps_for PassesOwn.never rfl (pi_list (pv 0)) (pg_name (i := 1) sc_check_crowd.nd rfl (by first | exact Or.inl rfl | exact Or.inr rfl)) (pss_one (ps_if (PW.pt (pw_or (pt_truth (pe_own D_free (hr.mono (by decide)) (by rfl) (pa_cons (pv 1) (pa_nil))) (by intro _; rfl)) (pw_or1 (pt_not (pt_val (pe_own D_is_fully_normal (hr.mono (by decide)) (by rfl) (pa_cons (pv 1) (pa_nil)))))))) (pss_one (ps_never)) (pss_nil))))), run_of (E := E) (c_check_crowd K C) h⟩)
structure PTurn (g : GH) : Prop where
  l : g.p.2.length = g.q.2.length
  ne : g.p.2 ≠ g.q.2
  s : g.p.2.length ≤ 1000000
def sp_next_turn (K : PySem.W.Frag) (C : Addr) : Sp := spG K C 1 aH PTurn (fun g d => d = .int ((fne g.p.2 g.q.2 : Nat) : Int))
abbrev s_next_turn : Stmt := topS 36
abbrev n_next_turn : List Str := ["heads", "first", "at", "other"]
theorem sc_next_turn : FnScope n_next_turn ["heads"] (defScope s_next_turn) := ⟨rfl, rfl, rfl, by decide +kernel, rfl, by decide +kernel, by decide +kernel⟩
-- calls: []; level 1; slots: 0:heads 1:first 2:at 3:other
def t_next_turn (K : PySem.W.Frag) (C : Addr) : TS := tSeq (tAsg (tOp (rIx K) (tOp (rIx K) (tVar 0) (tC (.int 0))) (tC (.int 1))) (gName 1)) (tSeq (tFor (iRng1 (tCons (tCB (rLenS K) (tCons (tVar 1) (tNil))) (tNil))) (gName 2) (tIfS (tB (tCB (rAny K) (tCons (tLc (iList K (tVar 0)) (gName 3) (tYes) (tOp (rNeD K) (tOp (rIx K) (tOp (rIx K) (tVar 3) (tC (.int 1))) (tVar 2)) (tOp (rIx K) (tVar 1) (tVar 2))) [3]) (tNil)))) (tRet (tVar 2)) (tNext))) (tRet (tC .non)))
theorem dT_at {as : List Tm} {k : Nat} {i : Int} (h : k < as.length) (e : i = (k : Int)) : atI (dT as) i = some (tmD (nth as k)) := by
  rw [e]
  refine atI_pos ?_
  simp only [dT]
  rw [List.getElem?_map, nth_get h]
  rfl
theorem c_next_turn (K : PySem.W.Frag) (C : Addr) (g : GH) (hp : PTurn g) (_ : (aH g).length = 1) :
    CmD K C (t_next_turn K C) (aH g ++ List.replicate (n_next_turn.length - 1) .un) (fun _ => (.non : D) = .int ((fne g.p.2 g.q.2 : Nat) : Int)) (fun d => d = .int ((fne g.p.2 g.q.2 : Nat) : Int)) no no := by
  obtain ⟨p, q⟩ := g
  obtain ⟨h1, h2, h3⟩ := hp
  simp only at h1 h2 h3
  obtain ⟨k1, k2, k3⟩ := fne_lt h1 h2
  have hl := dT_len p.2
  refine q_set (v_op (v_op (e_var rfl) e_int (o_ixL (d := dH p) (atI_pos (n := 0) rfl))) e_int (o_ixT (d := .lst (dT p.2)) (atI_pos (n := 1) rfl))) ?_
  refine q_for (it_rng1 (v_cb (ds := [.lst (dT p.2)]) (a_consV (e_var rfl) a_nil) k_lenL) (by rw [hl]; omega) (by rw [hl]; omega)) (fun i S1 => ∃ z, i ≤ fne p.2 q.2 ∧ S1 = [.im (.lst [dH p, dH q]), .im (.lst (dT p.2)), z, .un]) no ⟨.un, Nat.zero_le _, rfl⟩ ?_ ?_ (fun _ h => h.elim)
  · rintro i d S1 hi ⟨z, hle, rfl⟩
    obtain ⟨hi1, rfl⟩ := rng_at hi
    rw [hl, Int.toNat_natCast] at hi1
    refine ⟨_, tg_name, ?_⟩
    have tst : TsD K C (tB (tCB (rAny K) (tCons (tLc (iList K (tVar 0)) (gName 3) (tYes) (tOp (rNeD K) (tOp (rIx K) (tOp (rIx K) (tVar 3) (tC (.int 1))) (tVar 2)) (tOp (rIx K) (tVar 1) (tVar 2))) [3]) (tNil)))) ([.im (.lst [dH p, dH q]), .im (.lst (dT p.2)), z, .un].set 2 (.im (.int (i : Int)))) (fun b => b = decide (nth p.2 i ≠ nth q.2 i)) := by
      refine ts_is (t_bV (v_cb (ds := [.lst ([false, decide (nth p.2 i ≠ nth q.2 i)].map D.bl)]) (a_consV (v_is (v_lcG (as := [p, q]) (g := dH) (f := fun x => .bl (!decide (nth x.2 i = nth p.2 i))) (it_list (e_var rfl)) rfl (fun a ha => ?_) (by simp)) ?_) a_nil) k_any)) (by simp)
      · have hi2 : i < a.2.length := by
          rcases List.mem_cons.mp ha with rfl | ha
          · exact hi1
          · rcases List.mem_cons.mp ha with rfl | ha
            · omega
            · cases ha
        exact v_op (v_op (v_op (e_var rfl) e_int (o_ixT (d := .lst (dT a.2)) (atI_pos (n := 1) rfl))) (e_var rfl) (o_ixL (dT_at hi2 rfl))) (v_op (e_var rfl) (e_var rfl) (o_ixL (dT_at hi1 rfl))) (o_neD (isq_enc _) (isq_enc _) (by decide) (by decide) (encT_iff (by simp)))
      · simp [eq_comm]
    refine c_if tst (fun hb => c_retV (e_var rfl) ?_) (fun hb => c_next ⟨.im (.int (i : Int)), ?_, rfl⟩)
    · have hne : nth p.2 i ≠ nth q.2 i := of_decide_eq_true hb.symm
      have : ¬ i < fne p.2 q.2 := fun h => hne (k3 i h)
      rw [show i = fne p.2 q.2 by omega]
    · have he : ¬ nth p.2 i ≠ nth q.2 i := of_decide_eq_false hb.symm
      have : i ≠ fne p.2 q.2 := fun h => he (by rw [h]; exact k2)
      omega
  · rintro S1 ⟨z, hle, rfl⟩
    rw [rngD_len, hl, Int.toNat_natCast] at hle
    omega
theorem ok_next_turn {P : Program} {w : World} {K : PySem.W.Frag} {mg : Str → Option Value} {base : Heap} {C aI f : Addr} {fd : FuncData} (X : Tx K mg C aI) (F : Fun K "next_turn" "next_turn" s_next_turn f fd) (hm : mg "next_turn" = some (.ref f))  :
    Df P w K mg base 1 "next_turn" ["heads"] (sp_next_turn K C) :=
  df_mk hm F.kp (F.binds fun _ _ _ _ _ _ us hl => match us, hl with | [_], _ => rfl) (F.ok sc_next_turn spG_len fun cdv A outer s H vs Q E hr h => ⟨t_next_turn K C, pss_cons (ps_set (i := 1) sc_next_turn.nd rfl (by first | exact Or.inl rfl | exact Or.inr rfl) (pe_ix ix_seq (pe_ix ix_seq (pv 0) (pe_int) (fun _ _ => rfl)) (pe_int) (fun _ _ => rfl))) (pss_cons (ps_for PassesOwn.never rfl (pi_range1 (by rfl) X.range (pa_cons (pe_callB call_len_seq (by rfl) X.len (by decide +kernel) (pa_cons (pv 1) (pa_nil))) (pa_nil))) (pg_name (i := 2) sc_next_turn.nd rfl (by first | exact Or.inl rfl | exact Or.inr rfl)) (pss_one (ps_if (pt_val (pe_callB (cr_any rfl) (by rfl) X.any (by decide +kernel) (pa_cons (pe_lc (own := [("other", 3)]) (g := gName 3) rfl sc_next_turn.nd (pi_list (pv 0)) (blkOk_by (own := [("other", 3)]) (N := n_next_turn) (sc := defScope s_next_turn) (by decide +kernel)) (fun _ _ _ _ _ => pg_name (i := 3) sc_next_turn.nd rfl (by first | exact Or.inl rfl | exact Or.inr rfl)) (fun _ _ _ _ _ => pts_nil) (fun _ _ _ _ _ => pe_cmpR (op_neD hr.units) (pe_ix ix_seq (pe_ix ix_seq (pv 3) (pe_int) (fun _ _ => rfl)) (pv 2) (fun _ _ => rfl)) (pe_ix ix_seq (pv 1) (pv 2) (fun _ _ => rfl)) (nomark _))) (pa_nil)))) (pss_one (ps_ret (pv 2))) (pss_nil)))) (pss_one (ps_ret (pe_non)))), run_of (E := E) (c_next_turn K C) h⟩)
def tus (ps : List Ps) : List Nat := ps.filterMap (·.turn)
abbrev pth (t u : Tm) : List Ps := path (size t + size u) 0 t u
def sp_turns (K : PySem.W.Frag) (C : Addr) : Sp := spG K C 1 a2 PCrowd (fun g d => d = .lst (dI (tus (pth g.t g.u))))
abbrev s_turns : Stmt := topS 37
abbrev n_turns : List Str := ["crowd", "found", "heads", "turn", "term", "other"]
theorem sc_turns : FnScope n_turns ["crowd"] (defScope s_turns) := ⟨rfl, rfl, rfl, by decide +kernel, rfl, by decide +kernel, by decide +kernel⟩
-- calls: ['check_crowd', 'look', 'next_turn', 'same_heads']; level 6; slots: 0:crowd 1:found 2:heads 3:turn 4:term 5:other
def t_turns (K : PySem.W.Frag) (C : Addr) : TS := tSeq (tDrop (tCall (sp_check_crowd K C) [] E0 (tCons (tVar 0) (tNil)))) (tSeq (tIfS (tB (tCB (rAll K) (tCons (tLc (iList K (tVar 0)) (gName 4) (tYes) (tOp (rEqD K) (tVar 4) (tOp (rIx K) (tVar 0) (tC (.int 0)))) [4]) (tNil)))) (tNever) (tNext)) (tSeq (tAsg (tLst (tNil)) (gName 1)) (tSeq (tAsg (tCall (sp_look K C) [] E0 (tCons (tVar 0) (tNil))) (gName 2)) (tSeq (tWhile (tB (tCall (sp_same_heads K C) [] E0 (tCons (tVar 2) (tNil)))) (tSeq (tAsg (tCall (sp_next_turn K C) [] E0 (tCons (tVar 2) (tNil))) (gName 3)) (tSeq (tDrop (tBM K "list" (rAppend) (tVar 1) (tCons (tVar 3) (tNil)))) (tAsg (tCall (sp_look K C) [] E0 (tCons (tLc (iList K (tVar 2)) (gName 5) (tYes) (tOp (rIx K) (tOp (rIx K) (tVar 5) (tC (.int 1))) (tVar 3)) [5]) (tNil))) (gName 2))))) (tRet (tVar 1))))))
theorem path_yes {f off : Nat} {t u : Tm} (h : alike (stn (mx t u) t) (stn (mx t u) u) = true) : path (f + 1) off t u = ⟨mx t u, off, stn (mx t u) t, stn (mx t u) u, some (fne (stn (mx t u) t).2 (stn (mx t u) u).2)⟩ ::
        path f (off + mx t u) (nth (stn (mx t u) t).2 (fne (stn (mx t u) t).2 (stn (mx t u) u).2)) (nth (stn (mx t u) u).2 (fne (stn (mx t u) t).2 (stn (mx t u) u).2)) := by
  rw [path, if_pos h]
theorem path_no {f off : Nat} {t u : Tm} (h : alike (stn (mx t u) t) (stn (mx t u) u) = false) : path f off t u = [⟨mx t u, off, stn (mx t u) t, stn (mx t u) u, none⟩] := by
  cases f with
  | zero => rfl
  | succ f => rw [path, if_neg (by rw [h]; decide)]
theorem mx_le {m off : Nat} {t u : Tm} (h : Two m off t u) : mx t u ≤ m := by
  have := size_open h.nt
  have := size_open h.nu
  have := h.st
  have := h.su
  simp only [mx]; omega
theorem stn_le {m off : Nat} {t u : Tm} (h : Two m off t u) : (stn (mx t u) t).2.length ≤ 2 * m ∧ (stn (mx t u) u).2.length ≤ 2 * m := by
  have h1 := size_open h.nt
  have h2 := size_open h.nu
  have h3 := h.st
  have h4 := h.su
  have h5 := mx_le h
  rw [stn_len, stn_len]
  constructor <;> omega
theorem c_turns (K : PySem.W.Frag) (C : Addr) (g : G2) (hp : PCrowd g) (_ : (a2 g).length = 1) :
    CmD K C (t_turns K C) (a2 g ++ List.replicate (n_turns.length - 1) .un) (fun _ => (.non : D) = .lst (dI (tus (pth g.t g.u)))) (fun d => d = .lst (dI (tus (pth g.t g.u)))) no no := by
  obtain ⟨t, u⟩ := g
  have hp' := hp
  obtain ⟨h⟩ := hp
  simp only at h
  refine q_drop (v_call (⟨t, u⟩ : G2) (a_consV (e_var rfl) a_nil) hp') ?_
  refine q_no (ts_is (t_bV (v_cb (ds := [.lst ([true, false].map D.bl)]) (a_consV (v_is (v_lcG (as := [t, u]) (g := tmD) (f := fun x => .bl (decide (x = t))) (it_list (e_var rfl)) rfl (fun a ha => ?_) (by simp)) ?_) a_nil) k_all)) rfl) (q_next ?_)
  · exact v_op (e_var rfl) (v_op (e_var rfl) e_int (o_ixL (d := tmD t) (atI_pos (n := 0) rfl))) (o_eqD (isq_enc _) (isq_enc _) (by decide) (by decide) (encT_iff (by simp)))
  · simp [Ne.symm h.ne]
  refine q_lst0 ?_
  have look : ∀ (off : Nat) (t' u' : Tm), Two 40 off t' u' → off ≤ 5000 → PLook ⟨t', u'⟩ := fun off t' u' h ho => by
    have := h.st
    have := h.su
    exact ⟨⟨h.nt, h.nu, by show size t' ≤ 1000; omega, by show size u' ≤ 1000; omega⟩, cl_mono h.ct (by omega), cl_mono h.cu (by omega)⟩
  refine q_setE (v_call (⟨t, u⟩ : G2) (a_consV (e_var rfl) a_nil) (look 0 t u h (by omega))) ?_
  rintro d rfl
  refine q_while (fun m S1 => ∃ (off : Nat) (t' u' : Tm) (acc : List Nat) (z : Sl), Two 40 off t' u' ∧ size t' + size u' ≤ m ∧ off + 40 * m ≤ 3200 ∧ acc.length + m ≤ 80 ∧ acc ++ tus (path m off t' u') = tus (pth t u) ∧
      S1 = [.im (.lst (dT [t, u])), .ml (dI acc), .im (dLook t' u'), z, .un, .un]) no (size t + size u) ⟨0, t, u, [], .un, h, Nat.le_refl _, ?_, ?_, rfl, rfl⟩ ?_ (fun _ h => h.elim)
  · have := h.st; have := h.su; omega
  · have := h.st; have := h.su; simp; omega
  rintro m S1 ⟨off, t', u', acc, z, h', hm, ho, hacc, e, rfl⟩
  refine ⟨_, t_bV (v_call (⟨stn (mx t' u') t', stn (mx t' u') u'⟩ : GH) (a_consV (e_var rfl) a_nil) trivial), fun hb => ?_, fun hb => ?_⟩
  · have hk : alike (stn (mx t' u') t') (stn (mx t' u') u') = true := hb.symm
    obtain ⟨k1, k2, k3, k4⟩ := h'.next hk
    have h5 := size_pos t'
    obtain ⟨f, rfl⟩ : ∃ f, m = f + 1 := ⟨m - 1, by omega⟩
    rw [path_yes hk] at e
    have hal := hk
    simp only [alike, Bool.and_eq_true, beq_iff_eq] at hal
    have h6 := mx_le h'
    have h7 := stn_le h'
    refine q_setE (v_call (⟨stn (mx t' u') t', stn (mx t' u') u'⟩ : GH) (a_consV (e_var rfl) a_nil) ⟨hal.2, fun z => h'.ne (stn_inj h'.nt h'.nu h'.et h'.eu (Prod.ext hal.1 z)), by show (stn (mx t' u') t').2.length ≤ 1000000; omega⟩) ?_
    rintro d rfl
    refine q_app rfl (e_var rfl) (by rw [dI_len]; omega) ?_
    refine c_asg (v_call (⟨nth (stn (mx t' u') t').2 (fne (stn (mx t' u') t').2 (stn (mx t' u') u').2), nth (stn (mx t' u') u').2 (fne (stn (mx t' u') t').2 (stn (mx t' u') u').2)⟩ : G2)
      (a_is (a_consV (v_lcG (as := [stn (mx t' u') t', stn (mx t' u') u']) (g := dH) (f := fun x => tmD (nth x.2 (fne (stn (mx t' u') t').2 (stn (mx t' u') u').2))) (it_list (e_var (i := 2) rfl)) rfl (fun a ha => ?_) (by simp)) a_nil) rfl) (look _ _ _ k3 (by omega))) ?_
    · have hi2 : fne (stn (mx t' u') t').2 (stn (mx t' u') u').2 < a.2.length := by
        rcases List.mem_cons.mp ha with rfl | ha
        · exact k1
        · rcases List.mem_cons.mp ha with rfl | ha
          · exact k2
          · cases ha
      exact v_op (v_op (e_var rfl) e_int (o_ixT (d := .lst (dT a.2)) (atI_pos (n := 1) rfl))) (e_var rfl) (o_ixL (dT_at hi2 rfl))
    · rintro d rfl
      refine ⟨f, by omega, off + mx t' u', _, _, acc ++ [fne (stn (mx t' u') t').2 (stn (mx t' u') u').2], .im (.int ((fne (stn (mx t' u') t').2 (stn (mx t' u') u').2 : Nat) : Int)), k3, by omega, by omega, by simp; omega, ?_, ?_⟩
      · rw [← e]
        simp [tus]
      · rw [dI_snoc]; rfl
  · have hk : alike (stn (mx t' u') t') (stn (mx t' u') u') = false := hb.symm
    rw [path_no hk] at e
    refine c_retL rfl ?_
    rw [← e]
    simp [tus]
theorem ok_turns {P : Program} {w : World} {K : PySem.W.Frag} {mg : Str → Option Value} {base : Heap} {C aI f : Addr} {fd : FuncData} (X : Tx K mg C aI) (F : Fun K "turns" "turns" s_turns f fd) (hm : mg "turns" = some (.ref f)) (D_check_crowd : Df P w K mg base 5 "check_crowd" ["terms"] (sp_check_crowd K C)) (D_look : Df P w K mg base 5 "look" ["terms"] (sp_look K C)) (D_next_turn : Df P w K mg base 1 "next_turn" ["heads"] (sp_next_turn K C)) (D_same_heads : Df P w K mg base 1 "same_heads" ["heads"] (sp_same_heads K C)) :
    Df P w K mg base 6 "turns" ["crowd"] (sp_turns K C) :=
  df_mk hm F.kp (F.binds fun _ _ _ _ _ _ us hl => match us, hl with | [_], _ => rfl) (F.ok sc_turns spG_len fun cdv A outer s H vs Q E hr h => ⟨t_turns K C, pss_cons (ps_expr (pe_own D_check_crowd (hr.mono (by decide)) (by rfl) (pa_cons (pv 0) (pa_nil)))) (pss_cons (ps_if (pt_val (pe_callB (cr_all rfl) (by rfl) X.all (by decide +kernel) (pa_cons (pe_lc (own := [("term", 4)]) (g := gName 4) rfl sc_turns.nd (pi_list (pv 0)) (blkOk_by (own := [("term", 4)]) (N := n_turns) (sc := defScope s_turns) (by decide +kernel)) (fun _ _ _ _ _ => pg_name (i := 4) sc_turns.nd rfl (by first | exact Or.inl rfl | exact Or.inr rfl)) (fun _ _ _ _ _ => pts_nil) (fun _ _ _ _ _ => pe_cmpR (op_eqD hr.units) (pv 4) (pe_ix ix_seq (pv 0) (pe_int) (fun _ _ => rfl)) (nomark _))) (pa_nil)))) (pss_one (ps_never)) (pss_nil)) (pss_cons (ps_set (i := 1) sc_turns.nd rfl (by first | exact Or.inl rfl | exact Or.inr rfl) (pe_lst (pa_nil))) (pss_cons (ps_set (i := 2) sc_turns.nd rfl (by first | exact Or.inl rfl | exact Or.inr rfl) (pe_own D_look (hr.mono (by decide)) (by rfl) (pa_cons (pv 0) (pa_nil)))) (pss_cons (ps_while PassesOwn.never (pt_val (pe_own D_same_heads (hr.mono (by decide)) (by rfl) (pa_cons (pv 2) (pa_nil)))) (pss_cons (ps_set (i := 3) sc_turns.nd rfl (by first | exact Or.inl rfl | exact Or.inr rfl) (pe_own D_next_turn (hr.mono (by decide)) (by rfl) (pa_cons (pv 2) (pa_nil)))) (pss_cons (ps_expr (pe_bm PySem.F.plainAttrs_list PySem.F.slot_list_append PySem.F.type_list_append mt_append (pv 1) (pa_cons (pv 3) (pa_nil)))) (pss_one (ps_set (i := 2) sc_turns.nd rfl (by first | exact Or.inl rfl | exact Or.inr rfl) (pe_own D_look (hr.mono (by decide)) (by rfl) (pa_cons (pe_lc (own := [("other", 5)]) (g := gName 5) rfl sc_turns.nd (pi_list (pv 2)) (blkOk_by (own := [("other", 5)]) (N := n_turns) (sc := defScope s_turns) (by decide +kernel)) (fun _ _ _ _ _ => pg_name (i := 5) sc_turns.nd rfl (by first | exact Or.inl rfl | exact Or.inr rfl)) (fun _ _ _ _ _ => pts_nil) (fun _ _ _ _ _ => pe_ix ix_seq (pe_ix ix_seq (pv 5) (pe_int) (fun _ _ => rfl)) (pv 3) (fun _ _ => rfl))) (pa_nil)))))))) (pss_one (ps_ret (pv 1))))))), run_of (E := E) (c_turns K C) h⟩)
end Wk
end
section
set_option Elab.async false
set_option autoImplicit false
set_option linter.all false
set_option maxRecDepth 100000
set_option maxHeartbeats 4000000
/-! Plain: tuplers, levels, needs, widths, the arguments that tell. -/
namespace Wk
open PySem L2 Dl Lam
def dn1 : Nat → List Tm
  | 0 => []
  | n + 1 => .var (n + 1) :: dn1 n
theorem dn1_len : ∀ n, (dn1 n).length = n
  | 0 => rfl
  | n + 1 => by simp [dn1, dn1_len n]
theorem dn1_sizes : ∀ n, sizes (dn1 n) = n
  | 0 => rfl
  | n + 1 => by rw [dn1, sizes_cons, dn1_sizes n]; simp only [size]; omega
def tupT (w : Nat) : Tm := lams (w + 1) (apps (.var 0) (dn1 w))
theorem size_lams : ∀ (n : Nat) (t : Tm), size (lams n t) = n + size t
  | 0, t => by simp [lams]
  | n + 1, t => by simp only [lams, size, size_lams n t]; omega
theorem size_apps2 (t : Tm) (as : List Tm) : size (apps t as) = size t + as.length + sizes as := by
  rw [size_apps]
  induction as with
  | nil => simp [sizes]
  | cons a as ih => rw [sizes_cons, List.length_cons, List.map_cons, List.sum_cons]; omega
theorem size_tupT (w : Nat) : size (tupT w) = 3 * w + 2 := by
  unfold tupT
  rw [size_lams, size_apps2, dn1_len, dn1_sizes]
  simp only [size]; omega
theorem vle_lams : ∀ {n m : Nat} {t : Tm}, vle m t → vle m (lams n t)
  | 0, m, t, h => h
  | n + 1, m, t, h => vle_lams (n := n) h
theorem vle_apps : ∀ {as : List Tm} {m : Nat} {t : Tm}, vle m t → (∀ a ∈ as, vle m a) → vle m (apps t as)
  | [], m, t, h, _ => h
  | a :: as, m, t, h, h2 => vle_apps (as := as) (t := .app t a) ⟨h, h2 a List.mem_cons_self⟩ fun b hb => h2 b (List.mem_cons_of_mem _ hb)
theorem dn1_vle : ∀ {n m : Nat}, n ≤ m → ∀ a ∈ dn1 n, vle m a
  | n + 1, m, h, a, ha => by
    rcases List.mem_cons.mp ha with rfl | ha
    · exact h
    · exact dn1_vle (by omega) a ha
def idT : Tm := .lam (.var 0)
/-! levels -/
abbrev LC := Nat × Nat
def lvP (x : Ps) : LC := (x.off + x.ab - 1 - x.p.1, x.p.2.length)
def lvQ (x : Ps) : LC := (x.off + x.ab - 1 - x.q.1, x.q.2.length)
abbrev lvl (x : Ps) : List LC := [lvP x, lvQ x]
structure PsOk (x : Ps) : Prop where
  p : x.p.1 < x.off + x.ab
  q : x.q.1 < x.off + x.ab
  ab : x.ab ≤ 40
  off : x.off ≤ 3200
  lp : x.p.2.length ≤ 80
  lq : x.q.2.length ≤ 80
  tn : ∀ k, x.turn = some k → k < x.p.2.length ∧ x.p.1 = x.q.1 ∧ x.p.2.length = x.q.2.length
theorem Two.ps {off : Nat} {t u : Tm} (h : Two 40 off t u) (ho : off ≤ 3200) (tn : Option Nat) (ht : ∀ k, tn = some k → k < (stn (mx t u) t).2.length ∧ (stn (mx t u) t).1 = (stn (mx t u) u).1 ∧ (stn (mx t u) t).2.length = (stn (mx t u) u).2.length) : PsOk ⟨mx t u, off, stn (mx t u) t, stn (mx t u) u, tn⟩ := by
  have h1 := stn_le h
  have h2 := (ha_cl h.nt h.ct).1
  have h3 := (ha_cl h.nu h.cu).1
  have h4 : hn t ≤ mx t u := Nat.le_max_left _ _
  have h5 : hn u ≤ mx t u := Nat.le_max_right _ _
  exact ⟨by simp only [stn]; omega, by simp only [stn]; omega, mx_le h, ho, h1.1, h1.2, ht⟩
theorem path_ok : ∀ {f off : Nat} {t u : Tm}, Two 40 off t u → size t + size u ≤ f → off + 40 * f ≤ 3200 → (∀ x ∈ path f off t u, PsOk x) ∧ (path f off t u).length ≤ f + 1
  | 0, off, t, u, h, hf, ho => by have := size_pos t; omega
  | f + 1, off, t, u, h, hf, ho => by
    cases hk : alike (stn (mx t u) t) (stn (mx t u) u) with
    | false =>
      rw [path_no hk]
      refine ⟨fun x hx => ?_, by simp⟩
      rw [List.mem_singleton] at hx
      subst hx
      exact h.ps (by omega) none (fun k e => by cases e)
    | true =>
      rw [path_yes hk]
      obtain ⟨k1, k2, k3, k4⟩ := h.next hk
      have h6 := mx_le h
      obtain ⟨i1, i2⟩ := path_ok k3 (by omega) (by omega : off + mx t u + 40 * f ≤ 3200)
      simp only [alike, Bool.and_eq_true, beq_iff_eq] at hk
      refine ⟨fun x hx => ?_, by simp only [List.length_cons]; omega⟩
      rcases List.mem_cons.mp hx with rfl | hx
      · exact h.ps (by omega) _ (fun k e => by cases e; exact ⟨k1, hk.1, hk.2⟩)
      · exact i1 x hx
/-- the last position's heads differ -/
theorem path_end : ∀ {f off : Nat} {t u : Tm}, Two 40 off t u → size t + size u ≤ f → ∃ r x, path f off t u = r ++ [x] ∧ x.turn = none ∧ alike x.p x.q = false ∧ ∀ y ∈ r, y.turn ≠ none
  | 0, off, t, u, h, hf => by have := size_pos t; omega
  | f + 1, off, t, u, h, hf => by
    cases hk : alike (stn (mx t u) t) (stn (mx t u) u) with
    | false => exact ⟨[], _, path_no hk, rfl, hk, by simp⟩
    | true =>
      rw [path_yes hk]
      obtain ⟨k1, k2, k3, k4⟩ := h.next hk
      obtain ⟨r, x, e, h1, h2, h3⟩ := path_end k3 (by omega : _ ≤ f)
      refine ⟨_ :: r, x, by rw [e]; rfl, h1, h2, fun y hy => ?_⟩
      rcases List.mem_cons.mp hy with rfl | hy
      · simp
      · exact h3 y hy
/-! needs -/
def putMax (ns : List (Int × Int)) (p : LC) : List (Int × Int) := putI ns (p.1 : Int) (max ((getI ns (p.1 : Int)).getD 0) (p.2 : Int))
def needL (ls : List LC) : List (Int × Int) := ls.foldl putMax []
abbrev needs (xs : List Ps) : List (Int × Int) := needL (xs.flatMap lvl)
structure Cov (b : Nat) (ls : List LC) (ns : List (Int × Int)) : Prop where
  le : ∀ p ∈ ls, ∃ n : Nat, getI ns (p.1 : Int) = some (n : Int) ∧ p.2 ≤ n
  bd : ∀ k n, getI ns k = some n → 0 ≤ n ∧ n ≤ (b : Int)
theorem cov_nil (b : Nat) : Cov b [] [] := ⟨(fun p hp => by cases hp), (fun k n h => by simp [getI] at h)⟩
theorem cov_put {b : Nat} {ls : List LC} {ns : List (Int × Int)} (h : Cov b ls ns) (p : LC) (hb : p.2 ≤ b) : Cov b (ls ++ [p]) (putMax ns p) := by
  have hg : 0 ≤ (getI ns (p.1 : Int)).getD 0 ∧ (getI ns (p.1 : Int)).getD 0 ≤ (b : Int) := by
    cases e : getI ns (p.1 : Int) with
    | none => simp
    | some n => simpa using h.bd _ _ e
  refine ⟨fun q hq => ?_, fun k n hn => ?_⟩
  · by_cases e : q.1 = p.1
    · refine ⟨(max ((getI ns (p.1 : Int)).getD 0) (p.2 : Int)).toNat, ?_, ?_⟩
      · unfold putMax
        rw [getI_put, e, if_pos rfl]
        congr 1
        omega
      · rcases List.mem_append.mp hq with hq | hq
        · obtain ⟨n, h1, h2⟩ := h.le q hq
          rw [← e, h1]
          simp only [Option.getD_some]
          omega
        · rw [List.mem_singleton] at hq
          subst hq
          omega
    · have hq' : q ∈ ls := by
        rcases List.mem_append.mp hq with hq | hq
        · exact hq
        · rw [List.mem_singleton] at hq; subst hq; exact absurd rfl e
      obtain ⟨n, h1, h2⟩ := h.le q hq'
      refine ⟨n, ?_, h2⟩
      unfold putMax
      rw [getI_put, if_neg (by omega), h1]
  · unfold putMax at hn
    rw [getI_put] at hn
    by_cases e : k = (p.1 : Int)
    · rw [if_pos e] at hn
      cases hn
      omega
    · rw [if_neg e] at hn
      exact h.bd _ _ hn
theorem needL_snoc (ls : List LC) (p : LC) : needL (ls ++ [p]) = putMax (needL ls) p := by simp [needL, List.foldl_append]
theorem cov_fold (b : Nat) : ∀ (ls ls0 : List LC) (ns : List (Int × Int)), (∀ p ∈ ls, p.2 ≤ b) → Cov b ls0 ns → Cov b (ls0 ++ ls) (ls.foldl putMax ns)
  | [], ls0, ns, _, h => by simpa using h
  | p :: ls, ls0, ns, hb, h => by
    have := cov_fold b ls (ls0 ++ [p]) (putMax ns p) (fun q hq => hb q (List.mem_cons_of_mem _ hq)) (cov_put h p (hb p List.mem_cons_self))
    rw [List.append_assoc] at this
    exact this
theorem needL_cov (b : Nat) (ls : List LC) (h : ∀ p ∈ ls, p.2 ≤ b) : Cov b ls (needL ls) := by
  have := cov_fold b ls [] [] h (cov_nil b)
  rw [List.nil_append] at this
  exact this
/-! widths -/
def clashB (w l : Int) (ends : List LC) (ns : List (Int × Int)) : Bool :=
  ns.any fun o => ends.any fun a => ends.any fun b => decide ((a.1 : Int) = l) && (decide ((b.1 : Int) = o.1) && decide (w - (a.2 : Int) = o.2 - (b.2 : Int)))
/-- the second end's width -/
def wid2 (n2 c2 w1 c1 : Int) : Int := if n2 - c2 = w1 - c1 then n2 + 1 else n2
def settled (ns : List (Int × Int)) (e1 e2 : LC) : List (Int × Int) :=
  let n1 := (getI ns (e1.1 : Int)).getD 0
  let n2 := (getI ns (e2.1 : Int)).getD 0
  if e1.1 = e2.1 then [((e1.1 : Int), n1)] else [((e1.1 : Int), n1), ((e2.1 : Int), wid2 n2 (e2.2 : Int) n1 (e1.2 : Int))]
abbrev lastPs (xs : List Ps) : Ps := xs.getLastD ⟨0, 0, (0, []), (0, []), none⟩
def widths (xs : List Ps) : List (Int × Int) := mrgI (mrgI [] (needs xs)) (settled (needs xs) (lvP (lastPs xs)) (lvQ (lastPs xs)))
/-! the arguments -/
def wOf (W : List (Int × Int)) (l : Nat) : Nat := ((getI W (l : Int)).getD 0).toNat
def tupA (W : List (Int × Int)) (l : Nat) : Tm := match getI W (l : Int) with
  | some w => tupT w.toNat
  | none => idT
def tups (W : List (Int × Int)) (off ab : Nat) : List Tm := (List.range ab).map fun k => tupA W (off + k)
def choice (W : List (Int × Int)) (e1 e2 : LC) (g r : Nat) : Tm :=
  if r = wOf W e1.1 - e1.2 then lams (wOf W e1.1 + g - r) (proj 0 2) else if r = wOf W e2.1 - e2.2 then lams (wOf W e2.1 + g - r) (proj 1 2) else idT
def greatest (W : List (Int × Int)) (e1 e2 : LC) : Nat := max (wOf W e1.1 - e1.2) (wOf W e2.1 - e2.2)
def choices (W : List (Int × Int)) (e1 e2 : LC) : List Tm := (List.range (greatest W e1 e2 + 1)).map (choice W e1 e2 (greatest W e1 e2))
def argP (W : List (Int × Int)) (x : Ps) : List Tm := tups W x.off x.ab ++ match x.turn with
  | some k => List.replicate (wOf W (lvP x).1 - (lvP x).2) idT ++ [proj k (wOf W (lvP x).1)]
  | none => []
def argsP (xs : List Ps) : List Tm := xs.flatMap (argP (widths xs)) ++ choices (widths xs) (lvP (lastPs xs)) (lvQ (lastPs xs))
abbrev args (t u : Tm) : List Tm := argsP (pth t u)
end Wk
end
section
set_option Elab.async false
set_option autoImplicit false
set_option linter.all false
set_option maxRecDepth 100000
set_option maxHeartbeats 4000000
/-! abstracted_by, projection, tupler, Position, positions_of. -/
namespace Wk
open PySem L2 Dl Dx Lam
structure GAbs where
  n : Nat
  t : Tm
abbrev aAbs (g : GAbs) : List Sl := [.im (.int (g.n : Int)), .im (tmD g.t)]
def sp_abstracted_by (K : PySem.W.Frag) (C : Addr) : Sp := spG K C 2 aAbs (fun g => g.n ≤ 1000 ∧ size g.t ≤ 100000) (fun g d => d = tmD (lams g.n g.t))
abbrev s_abstracted_by : Stmt := topS 41
abbrev n_abstracted_by : List Str := ["count", "term"]
theorem sc_abstracted_by : FnScope n_abstracted_by ["count", "term"] (defScope s_abstracted_by) := ⟨rfl, rfl, rfl, by decide +kernel, rfl, by decide +kernel, by decide +kernel⟩
-- calls: []; level 1; slots: 0:count 1:term
def t_abstracted_by (K : PySem.W.Frag) (C : Addr) : TS := tRet (tOp (rCatA K) (tOp (rRepA K) (tTup (tCons (tC (.str "lam")) (tNil))) (tVar 0)) (tVar 1))
theorem c_abstracted_by (K : PySem.W.Frag) (C : Addr) (g : GAbs) (hp : g.n ≤ 1000 ∧ size g.t ≤ 100000) (_ : (aAbs g).length = 2) :
    CmD K C (t_abstracted_by K C) (aAbs g ++ List.replicate (n_abstracted_by.length - 2) .un) (fun _ => (.non : D) = tmD (lams g.n g.t)) (fun d => d = tmD (lams g.n g.t)) no no := by
  obtain ⟨n, t⟩ := g
  obtain ⟨h1, h2⟩ := hp
  simp only at h1 h2
  refine c_retV (v_is (v_op (v_op (v_tup (ds := [.str "lam"]) (a_consV e_str a_nil)) (e_var rfl) (o_rep (by simp) (by show (0 : Int) ≤ (n : Int); omega) (by show (n : Int) ≤ 1000; omega) (by simp))) (e_var rfl) (o_cat (by rw [flat_one, List.length_replicate, Int.toNat_natCast, enc_len]; show n + size t ≤ 16777216; omega))) ?_) rfl
  rw [flat_one, Int.toNat_natCast, tmD, enc_lams]
theorem ok_abstracted_by {P : Program} {w : World} {K : PySem.W.Frag} {mg : Str → Option Value} {base : Heap} {C aI f : Addr} {fd : FuncData} (X : Tx K mg C aI) (F : Fun K "abstracted_by" "abstracted_by" s_abstracted_by f fd) (hm : mg "abstracted_by" = some (.ref f))  :
    Df P w K mg base 1 "abstracted_by" ["count", "term"] (sp_abstracted_by K C) :=
  df_mk hm F.kp (F.binds fun _ _ _ _ _ _ us hl => match us, hl with | [_, _], _ => rfl) (F.ok sc_abstracted_by spG_len fun cdv A outer s H vs Q E hr h => ⟨t_abstracted_by K C, pss_one (ps_ret (pe_op op_catA (pe_op op_repA (pe_tup (pa_cons (pe_str) (pa_nil))) (pv 0)) (pv 1))), run_of (E := E) (c_abstracted_by K C) h⟩)
def sp_projection (K : PySem.W.Frag) (C : Addr) : Sp := spG K C 2 aProj (fun g => g.i < g.n ∧ g.n ≤ 1000) (fun g d => d = .tup (enc (proj g.i g.n)))
abbrev s_projection : Stmt := topS 42
abbrev n_projection : List Str := ["index", "count"]
theorem sc_projection : FnScope n_projection ["index", "count"] (defScope s_projection) := ⟨rfl, rfl, rfl, by decide +kernel, rfl, by decide +kernel, by decide +kernel⟩
-- calls: ['abstracted_by']; level 2; slots: 0:index 1:count
def t_projection (K : PySem.W.Frag) (C : Addr) : TS := tRet (tCall (sp_abstracted_by K C) [] E0 (tCons (tVar 1) (tCons (tTup (tCons (tOp (rSubI) (tOp (rSubI) (tVar 1) (tC (.int 1))) (tVar 0)) (tNil))) (tNil))))
theorem c_projection (K : PySem.W.Frag) (C : Addr) (g : GProj) (hp : g.i < g.n ∧ g.n ≤ 1000) (_ : (aProj g).length = 2) :
    CmD K C (t_projection K C) (aProj g ++ List.replicate (n_projection.length - 2) .un) (fun _ => (.non : D) = .tup (enc (proj g.i g.n))) (fun d => d = .tup (enc (proj g.i g.n))) no no := by
  obtain ⟨i, n⟩ := g
  obtain ⟨h1, h2⟩ := hp
  simp only at h1 h2
  refine c_retV (v_call (⟨n, .var (n - 1 - i)⟩ : GAbs) (a_is (a_consV (e_var rfl) (a_consV (v_tup (ds := [_]) (a_consV (v_op (v_op (e_var rfl) e_int o_sub) (e_var rfl) o_sub) a_nil)) a_nil)) ?_) ⟨h2, by simp only [size]; omega⟩) rfl
  simp only [aAbs, tmD, enc]
  rw [show (n : Int) - 1 - (i : Int) = ((n - 1 - i : Nat) : Int) by omega]
theorem ok_projection {P : Program} {w : World} {K : PySem.W.Frag} {mg : Str → Option Value} {base : Heap} {C aI f : Addr} {fd : FuncData} (X : Tx K mg C aI) (F : Fun K "projection" "projection" s_projection f fd) (hm : mg "projection" = some (.ref f)) (D_abstracted_by : Df P w K mg base 1 "abstracted_by" ["count", "term"] (sp_abstracted_by K C)) :
    Df P w K mg base 2 "projection" ["index", "count"] (sp_projection K C) :=
  df_mk hm F.kp (F.binds fun _ _ _ _ _ _ us hl => match us, hl with | [_, _], _ => rfl) (F.ok sc_projection spG_len fun cdv A outer s H vs Q E hr h => ⟨t_projection K C, pss_one (ps_ret (pe_own D_abstracted_by (hr.mono (by decide)) (by rfl) (pa_cons (pv 1) (pa_cons (pe_tup (pa_cons (pe_op op_sub (pe_op op_sub (pv 1) (pe_int)) (pv 0)) (pa_nil))) (pa_nil))))), run_of (E := E) (c_projection K C) h⟩)
def sp_tupler (K : PySem.W.Frag) (C : Addr) : Sp := spG K C 1 (fun w : Nat => [.im (.int (w : Int))]) (fun w => w ≤ 300) (fun w d => d = tmD (tupT w))
abbrev s_tupler : Stmt := topS 43
abbrev n_tupler : List Str := ["count"]
theorem sc_tupler : FnScope n_tupler ["count"] (defScope s_tupler) := ⟨rfl, rfl, rfl, by decide +kernel, rfl, by decide +kernel, by decide +kernel⟩
-- calls: ['abstracted_by', 'checked']; level 2; slots: 0:count
def t_tupler (K : PySem.W.Frag) (C : Addr) : TS := tRet (tCall (sp_checked K C) [] E0 (tCons (tCall (sp_abstracted_by K C) [] E0 (tCons (tOp (rAddI) (tVar 0) (tC (.int 1))) (tCons (tOp (rCatA K) (tOp (rCatA K) (tOp (rRepA K) (tTup (tCons (tC (.str "app")) (tNil))) (tVar 0)) (tTup (tCons (tC (.int 0)) (tNil)))) (tTupRng (tCons (tVar 0) (tCons (tC (.int 0)) (tCons (tUn (rU fun i => .int (-i)) (tC (.int 1))) (tNil)))))) (tNil)))) (tNil)))
theorem dn1_enc : ∀ w : Nat, ((List.range w).map fun (k : Nat) => D.int ((w : Int) + (k : Int) * (-1))) = encs (dn1 w)
  | 0 => rfl
  | w + 1 => by
    rw [List.range_succ_eq_map, List.map_cons, List.map_map, dn1, encs_cons, ← dn1_enc w]
    simp only [enc, List.cons_append, List.nil_append]
    refine congr (congrArg List.cons (by simp)) ?_
    apply List.map_congr_left
    intro k _
    simp only [Function.comp, Nat.succ_eq_add_one]
    congr 1
    omega
theorem c_tupler (K : PySem.W.Frag) (C : Addr) (w : Nat) (hp : w ≤ 300) (_ : ([.im (.int (w : Int))] : List Sl).length = 1) :
    CmD K C (t_tupler K C) ([.im (.int (w : Int))] ++ List.replicate (n_tupler.length - 1) .un) (fun _ => (.non : D) = tmD (tupT w)) (fun d => d = tmD (tupT w)) no no := by
  have hr := RgC.neg (i := (w : Int)) (j := 0) (by omega) (by omega) (by omega) (by omega)
  have e0 : ((w : Int) - 0).toNat = w := by omega
  rw [e0] at hr
  have el : ((List.range w).map fun (k : Nat) => D.int ((w : Int) + (k : Int) * (-1))).length = w := by simp
  refine c_retV (v_call (tupT w) (a_consV (v_call (⟨w + 1, apps (.var 0) (dn1 w)⟩ : GAbs) (a_is (a_consV (v_op (e_var rfl) e_int o_add) (a_consV (v_op (v_op (v_op (v_tup (ds := [.str "app"]) (a_consV e_str a_nil)) (e_var rfl) (o_rep (by simp) (by omega) (by omega) (by simp))) (v_tup (ds := [.int 0]) (a_consV e_int a_nil)) (o_cat (by rw [flat_one, List.length_replicate, Int.toNat_natCast]; simp; omega)))
    (v_tupRng (e_var rfl) e_int (v_neg e_int) hr (by omega)) (o_cat (by rw [List.length_append, flat_one, List.length_replicate, Int.toNat_natCast, el]; simp; omega))) a_nil)) ?_) ⟨by show w + 1 ≤ 1000; omega, by rw [size_apps2, dn1_len, dn1_sizes]; simp only [size]; omega⟩) a_nil) ⟨by rw [size_tupT]; omega, vle_lams (vle_apps (Nat.zero_le _) (dn1_vle (by omega)))⟩) rfl
  simp only [aAbs, tmD]
  rw [flat_one, Int.toNat_natCast, dn1_enc, enc_apps, dn1_len]
  simp [enc]
theorem ok_tupler {P : Program} {w : World} {K : PySem.W.Frag} {mg : Str → Option Value} {base : Heap} {C aI f : Addr} {fd : FuncData} (X : Tx K mg C aI) (F : Fun K "tupler" "tupler" s_tupler f fd) (hm : mg "tupler" = some (.ref f)) (D_abstracted_by : Df P w K mg base 1 "abstracted_by" ["count", "term"] (sp_abstracted_by K C)) (D_checked : Df P w K mg base 1 "checked" ["nodes"] (sp_checked K C)) :
    Df P w K mg base 2 "tupler" ["count"] (sp_tupler K C) :=
  df_mk hm F.kp (F.binds fun _ _ _ _ _ _ us hl => match us, hl with | [_], _ => rfl) (F.ok sc_tupler spG_len fun cdv A outer s H vs Q E hr h => ⟨t_tupler K C, pss_one (ps_ret (pe_own D_checked (hr.mono (by decide)) (by rfl) (pa_cons (pe_own D_abstracted_by (hr.mono (by decide)) (by rfl) (pa_cons (pe_op op_add (pv 0) (pe_int)) (pa_cons (pe_op op_catA (pe_op op_catA (pe_op op_repA (pe_tup (pa_cons (pe_str) (pa_nil))) (pv 0)) (pe_tup (pa_cons (pe_int) (pa_nil)))) (Dx.pe_tupRng rfl (by rfl) X.tuple (by rfl) X.range (pa_cons (pv 0) (pa_cons (pe_int) (pa_cons (pe_un un_neg (pe_int)) (pa_nil)))))) (pa_nil)))) (pa_nil)))), run_of (E := E) (c_tupler K C) h⟩)
/-! Position -/
structure GIni where
  t : Tm
  u : Tm
  off : Nat
abbrev aIni (g : GIni) : List Sl := [.im (.lst (dT [g.t, g.u])), .im (.int (g.off : Int))]
def dTn : Option Nat → D
  | none => .non
  | some k => .int (k : Int)
abbrev dPs (x : Ps) : D := .pos (x.ab : Int) (x.off : Int) (.lst [dH x.p, dH x.q]) (dTn x.turn)
def sp_Position___init__ (K : PySem.W.Frag) (C : Addr) : Sp := spP K C 2 aIni (fun g => PLook ⟨g.t, g.u⟩) (fun g => fsP ((mx g.t g.u : Nat) : Int) (g.off : Int) (dLook g.t g.u) .non)
abbrev s_Position___init__ : Stmt := inClass (topS 44) 0
abbrev n_Position___init__ : List Str := ["self", "terms", "offset"]
theorem sc_Position___init__ : FnScope n_Position___init__ ["self", "terms", "offset"] (defScope s_Position___init__) := ⟨rfl, rfl, rfl, by decide +kernel, rfl, by decide +kernel, by decide +kernel⟩
-- calls: ['look', 'most_abstractions']; level 6; slots: 0:self 1:terms 2:offset
def t_Position___init__ (K : PySem.W.Frag) (C : Addr) : TS := tSeq (sFld K (tVar 0) (tCall (sp_most_abstractions K C) [] E0 (tCons (tVar 1) (tNil))) "abstractions") (tSeq (sFld K (tVar 0) (tVar 2) "first_level") (tSeq (sFld K (tVar 0) (tCall (sp_look K C) [] E0 (tCons (tVar 1) (tNil))) "heads") (sFld K (tVar 0) (tC .non) "turn")))
theorem c_Position___init__ (K : PySem.W.Frag) (C : Addr) (cf : Cf K C) (g : GIni) (hp : PLook ⟨g.t, g.u⟩) (_ : (aIni g).length = 2) (Z : Zt) (B H : Hp) (σ : L2.St) (E : Ends)
    (hh : Holds K C Z B H σ (.po [] :: aIni g)) (kk : ∀ B1 H1, Step K C Z B H σ (.po [] :: aIni g) B1 H1 σ (.po (fsP ((mx g.t g.u : Nat) : Int) (g.off : Int) (dLook g.t g.u) .non) :: aIni g) → E.nx σ H1) : t_Position___init__ K C E σ H := by
  obtain ⟨t, u, off⟩ := g
  refine fld_step (d := .int ((mx t u : Nat) : Int)) (fs := []) cf.cls cf.ab hh rfl (by decide) (v_call (⟨t, u⟩ : G2) (a_consV (e_var rfl) a_nil) hp.toPMost) fun B1 H1 s1 => ?_
  refine fld_step (d := .int (off : Int)) (fs := putD "abstractions" (.int ((mx t u : Nat) : Int)) []) cf.cls cf.fl s1.hold rfl (by simp [putD]) (e_var rfl) fun B2 H2 s2 => ?_
  have e2 : putD "first_level" (.int (off : Int)) (putD "abstractions" (.int ((mx t u : Nat) : Int)) []) = ([("abstractions", .int ((mx t u : Nat) : Int)), ("first_level", .int (off : Int))] : List (Str × D)) := by
    rw [putD_nil, putD_no n1, putD_nil]
  rw [e2] at s2
  refine fld_step (tv := tCall (sp_look K C) [] E0 (tCons (tVar 1) tNil)) (d := dLook t u) (fs := [("abstractions", .int ((mx t u : Nat) : Int)), ("first_level", .int (off : Int))]) cf.cls cf.hs s2.hold rfl (by simp) (v_call (⟨t, u⟩ : G2) (a_consV (e_var rfl) a_nil) hp) fun B3 H3 s3 => ?_
  rw [putD_no n2, putD_no n4, putD_nil] at s3
  refine fld_step (d := .non) (fs := [("abstractions", .int ((mx t u : Nat) : Int)), ("first_level", .int (off : Int)), ("heads", dLook t u)]) cf.cls cf.tn s3.hold rfl (by simp) e_non fun B4 H4 s4 => ?_
  rw [putD_no n3, putD_no n5, putD_no n6, putD_nil] at s4
  exact kk B4 H4 (((s1.trans hh s2).trans hh s3).trans hh s4)
theorem ok_Position___init__ {P : Program} {w : World} {K : PySem.W.Frag} {mg : Str → Option Value} {base : Heap} {C aI f : Addr} {fd : FuncData} (X : Tx K mg C aI) (F : Fun K "__init__" "Position.__init__" s_Position___init__ f fd) (hm : Mk K C f) (cf : Cf K C) (D_look : Df P w K mg base 5 "look" ["terms"] (sp_look K C)) (D_most_abstractions : Df P w K mg base 4 "most_abstractions" ["terms"] (sp_most_abstractions K C)) :
    Dk P w K mg base 6 C ["self", "terms", "offset"] (sp_Position___init__ K C) :=
  dk_mk hm F.kp (F.binds fun _ _ _ _ _ _ us hl => match us, hl with | [_, _, _], _ => rfl) (F.ok sc_Position___init__ spP_len fun cdv A outer s H vs Q E hr h => ⟨t_Position___init__ K C, pss_cons (ps_fld (pv 0) (pe_own D_most_abstractions (hr.mono (by decide)) (by rfl) (pa_cons (pv 1) (pa_nil))) rfl) (pss_cons (ps_fld (pv 0) (pv 2) rfl) (pss_cons (ps_fld (pv 0) (pe_own D_look (hr.mono (by decide)) (by rfl) (pa_cons (pv 1) (pa_nil))) rfl) (pss_one (ps_fld (pv 0) (pe_non) rfl)))), run_init rfl (E := E) (c_Position___init__ K C cf) h⟩)
abbrev dLC (p : LC) : D := .tup [.int (p.1 : Int), .int (p.2 : Int)]
abbrev dLv (x : Ps) : D := .lst [dLC (lvP x), dLC (lvQ x)]
structure Hk (x : Ps) : Prop where
  p : x.p.1 < x.off + x.ab
  q : x.q.1 < x.off + x.ab
def sp_Position_levels (K : PySem.W.Frag) (C : Addr) : Sp := spG K C 1 (fun x : Ps => [.im (dPs x)]) Hk (fun x d => d = dLv x)
abbrev s_Position_levels : Stmt := inClass (topS 44) 1
abbrev n_Position_levels : List Str := ["self", "behind", "variable", "arguments"]
theorem sc_Position_levels : FnScope n_Position_levels ["self"] (defScope s_Position_levels) := ⟨rfl, rfl, rfl, by decide +kernel, rfl, by decide +kernel, by decide +kernel⟩
-- calls: []; level 1; slots: 0:self 1:behind 2:variable 3:arguments
def t_Position_levels (K : PySem.W.Frag) (C : Addr) : TS := tSeq (tAsg (tOp (rAddI) (tFld K (tVar 0) "first_level") (tFld K (tVar 0) "abstractions")) (gName 1)) (tRet (tLc (iList K (tFld K (tVar 0) "heads")) (gTup K 2 (gCons (gName 2) (gCons (gName 3) (gNil)))) (tYes) (tTup (tCons (tOp (rSubI) (tOp (rSubI) (tVar 1) (tC (.int 1))) (tVar 2)) (tCons (tCB (rLenS K) (tCons (tVar 3) (tNil))) (tNil)))) [2, 3]))
theorem c_Position_levels (K : PySem.W.Frag) (C : Addr) (cf : Cf K C) (x : Ps) (hp : Hk x) (_ : ([.im (dPs x)] : List Sl).length = 1) :
    CmD K C (t_Position_levels K C) ([.im (dPs x)] ++ List.replicate (n_Position_levels.length - 1) .un) (fun _ => (.non : D) = dLv x) (fun d => d = dLv x) no no := by
  refine q_set (v_op (v_fl cf (e_var rfl)) (v_ab cf (e_var rfl)) o_add) ?_
  refine c_retV (v_lcG2 (as := [x.p, x.q]) (g1 := fun h : Hd => .int ((h.1 : Nat) : Int)) (g2 := fun h : Hd => .lst (dT h.2)) (f := fun h : Hd => dLC (x.off + x.ab - 1 - h.1, h.2.length)) (it_list (v_hs cf (e_var rfl))) rfl rfl (by decide) (fun h hh => ?_) (by simp)) rfl
  have hlt : h.1 < x.off + x.ab := by
    rcases List.mem_cons.mp hh with rfl | hh
    · exact hp.p
    · rcases List.mem_cons.mp hh with rfl | hh
      · exact hp.q
      · cases hh
  refine v_is (v_tup (ds := [_, _]) (a_consV (v_op (v_op (e_var rfl) e_int o_sub) (e_var rfl) o_sub) (a_consV (v_cb (ds := [.lst (dT h.2)]) (a_consV (e_var rfl) a_nil) k_lenL) a_nil))) ?_
  rw [dT_len, show (x.off : Int) + (x.ab : Int) - 1 - ((h.1 : Nat) : Int) = ((x.off + x.ab - 1 - h.1 : Nat) : Int) by omega]
theorem ok_Position_levels {P : Program} {w : World} {K : PySem.W.Frag} {mg : Str → Option Value} {base : Heap} {C aI f : Addr} {fd : FuncData} (X : Tx K mg C aI) (F : Fun K "levels" "Position.levels" s_Position_levels f fd) (hm : Meth K C "levels" f) (cf : Cf K C)  :
    Dm P w K mg base 1 C "levels" ["self"] (sp_Position_levels K C) :=
  dm_mk hm F.kp (F.binds fun _ _ _ _ _ _ us hl => match us, hl with | [_], _ => rfl) (F.ok sc_Position_levels spG_len fun cdv A outer s H vs Q E hr h => ⟨t_Position_levels K C, pss_cons (ps_set (i := 1) sc_Position_levels.nd rfl (by first | exact Or.inl rfl | exact Or.inr rfl) (pe_op op_add (pe_fld (pv 0) rfl) (pe_fld (pv 0) rfl))) (pss_one (ps_ret (pe_lc (own := [("variable", 2), ("arguments", 3)]) (g := gTup K 2 (gCons (gName 2) (gCons (gName 3) (gNil)))) rfl sc_Position_levels.nd (pi_list (pe_fld (pv 0) rfl)) (blkOk_by (own := [("variable", 2), ("arguments", 3)]) (N := n_Position_levels) (sc := defScope s_Position_levels) (by decide +kernel)) (fun _ _ _ _ _ => pg_tup rfl (pgs_cons (pg_name (i := 2) sc_Position_levels.nd rfl (by first | exact Or.inl rfl | exact Or.inr rfl)) (pgs_cons (pg_name (i := 3) sc_Position_levels.nd rfl (by first | exact Or.inl rfl | exact Or.inr rfl)) (pgs_nil)))) (fun _ _ _ _ _ => pts_nil) (fun _ _ _ _ _ => pe_tup (pa_cons (pe_op op_sub (pe_op op_sub (pv 1) (pe_int)) (pv 2)) (pa_cons (pe_callB call_len_seq (by rfl) X.len (by decide +kernel) (pa_cons (pv 3) (pa_nil))) (pa_nil))))))), run_of (E := E) (c_Position_levels K C cf) h⟩)
def sp_positions_of (K : PySem.W.Frag) (C : Addr) : Sp := spG K C 1 a2 PCrowd (fun g d => d = .lst ((pth g.t g.u).map dPs))
abbrev s_positions_of : Stmt := topS 45
abbrev n_positions_of : List Str := ["crowd", "found", "terms", "offset", "turn", "position", "variable", "arguments"]
theorem sc_positions_of : FnScope n_positions_of ["crowd"] (defScope s_positions_of) := ⟨rfl, rfl, rfl, by decide +kernel, rfl, by decide +kernel, by decide +kernel⟩
-- calls: ['Position.__init__', 'turns']; level 9; slots: 0:crowd 1:found 2:terms 3:offset 4:turn 5:position 6:variable 7:arguments
def t_positions_of (K : PySem.W.Frag) (C : Addr) : TS := tSeq (tAsg (tLst (tNil)) (gName 1)) (tSeq (tAsg (tCB (rListS K) (tCons (tVar 0) (tNil))) (gName 2)) (tSeq (tAsg (tC (.int 0)) (gName 3)) (tSeq (tFor (iList K (tCall (sp_turns K C) [] E0 (tCons (tVar 0) (tNil)))) (gName 4) (tSeq (tAsg (tMake C (sp_Position___init__ K C) [] E0 (tCons (tVar 2) (tCons (tVar 3) (tNil)))) (gName 5)) (tSeq (sFld K (tVar 5) (tVar 4) "turn") (tSeq (tDrop (tBM K "list" (rAppend) (tVar 1) (tCons (tVar 5) (tNil)))) (tSeq (tAug 3 (tFld K (tVar 5) "abstractions") (ipI fun i j => i + j)) (tAsg (tLc (iList K (tFld K (tVar 5) "heads")) (gTup K 2 (gCons (gName 6) (gCons (gName 7) (gNil)))) (tYes) (tOp (rIx K) (tVar 7) (tVar 4)) [6, 7]) (gName 2))))))) (tSeq (tDrop (tBM K "list" (rAppend) (tVar 1) (tCons (tMake C (sp_Position___init__ K C) [] E0 (tCons (tVar 2) (tCons (tVar 3) (tNil)))) (tNil)))) (tRet (tVar 1))))))
theorem putD_tn {ab fl : Int} {hs tn tn' : D} : putD "turn" tn' (fsP ab fl hs tn) = fsP ab fl hs tn' := by
  rw [fsP, putD_no n3, putD_no n5, putD_no n6, putD_yes]
theorem c_positions_of (K : PySem.W.Frag) (C : Addr) (cf : Cf K C) (g : G2) (hp : PCrowd g) (_ : (a2 g).length = 1) :
    CmD K C (t_positions_of K C) (a2 g ++ List.replicate (n_positions_of.length - 1) .un) (fun _ => (.non : D) = .lst ((pth g.t g.u).map dPs)) (fun d => d = .lst ((pth g.t g.u).map dPs)) no no := by
  obtain ⟨t, u⟩ := g
  have hp' := hp
  obtain ⟨h⟩ := hp
  simp only at h
  have look : ∀ (off : Nat) (t' u' : Tm), Two 40 off t' u' → off ≤ 5000 → PLook ⟨t', u'⟩ := fun off t' u' h ho => by
    have := h.st
    have := h.su
    exact ⟨⟨h.nt, h.nu, by show size t' ≤ 1000; omega, by show size u' ≤ 1000; omega⟩, cl_mono h.ct (by omega), cl_mono h.cu (by omega)⟩
  refine q_lst0 ?_
  refine q_set (v_cb (ds := [.lst (dT [t, u])]) (a_consV (e_var rfl) a_nil) k_listL) ?_
  refine q_set e_int ?_
  refine q_forR (it_list (v_call (⟨t, u⟩ : G2) (a_consV (e_var rfl) a_nil) hp')) (fun r S1 => ∃ (f off : Nat) (t' u' : Tm) (acc : List Ps) (z4 z5 : Sl), z5.own = false ∧ Two 40 off t' u' ∧ size t' + size u' ≤ f ∧ off + 40 * f ≤ 3200 ∧ acc.length + f ≤ 80 ∧
      r = dI (tus (path f off t' u')) ∧ acc ++ path f off t' u' = pth t u ∧ S1 = [.im (.lst (dT [t, u])), .ml (acc.map dPs), .im (.lst (dT [t', u'])), .im (.int (off : Int)), z4, z5, .un, .un]) no
      ⟨size t + size u, 0, t, u, [], .un, .un, rfl, h, Nat.le_refl _, ?_, ?_, rfl, rfl, rfl⟩ ?_ ?_ (fun _ h => h.elim)
  · have := h.st; have := h.su; omega
  · have := h.st; have := h.su; simp; omega
  · rintro d r S1 ⟨f, off, t', u', acc, z4, z5, hz, h', hf, ho, hacc, er, e, rfl⟩
    have hpos := size_pos t'
    obtain ⟨f, rfl⟩ : ∃ f', f = f' + 1 := ⟨f - 1, by omega⟩
    cases hk : alike (stn (mx t' u') t') (stn (mx t' u') u') with
    | false =>
      rw [path_no hk] at er
      simp [tus] at er
    | true =>
      rw [path_yes hk] at er e
      simp only [tus, List.filterMap_cons, dI, List.map_cons, List.cons.injEq] at er
      obtain ⟨rfl, rfl⟩ := er
      obtain ⟨k1, k2, k3, k4⟩ := h'.next hk
      have h6 := mx_le h'
      generalize ek : fne (stn (mx t' u') t').2 (stn (mx t' u') u').2 = k at *
      refine ⟨_, tg_name, ?_⟩
      refine q_make (e_make (⟨t', u', off⟩ : GIni) (a_consV (e_var rfl) (a_consV (e_var rfl) a_nil)) (look off t' u' h' (by omega))) ?_
      refine q_fld (d := .int (k : Int)) (fs := fsP ((mx t' u' : Nat) : Int) (off : Int) (dLook t' u') .non) cf.cls cf.tn rfl (by simp) (e_var rfl) ?_
      rw [putD_tn]
      refine c_freezeP (j := 5) rfl ?_
      refine q_app (d := dPs ⟨mx t' u', off, stn (mx t' u') t', stn (mx t' u') u', some k⟩) rfl (e_var rfl) (by rw [List.length_map]; omega) ?_
      refine q_aug rfl (v_ab cf (e_var rfl)) ?_
      refine c_asgV (d := .lst (dT [nth (stn (mx t' u') t').2 k, nth (stn (mx t' u') u').2 k])) (v_lcG2 (as := [stn (mx t' u') t', stn (mx t' u') u']) (g1 := fun h : Hd => .int ((h.1 : Nat) : Int)) (g2 := fun h : Hd => .lst (dT h.2)) (f := fun h : Hd => tmD (nth h.2 k)) (it_list (v_hs cf (e_var (i := 5) rfl))) rfl rfl (by decide) (fun a ha => ?_) (by simp)) ?_
      · have hi2 : k < a.2.length := by
          rcases List.mem_cons.mp ha with rfl | ha
          · exact k1
          · rcases List.mem_cons.mp ha with rfl | ha
            · exact k2
            · cases ha
        exact v_op (e_var rfl) (e_var rfl) (o_ixL (dT_at hi2 rfl))
      · refine ⟨f, off + mx t' u', _, _, acc ++ [⟨mx t' u', off, stn (mx t' u') t', stn (mx t' u') u', some k⟩], .im (.int (k : Int)), .im (dPs ⟨mx t' u', off, stn (mx t' u') t', stn (mx t' u') u', some k⟩), rfl, k3, by omega, by omega, by simp; omega, rfl, ?_, ?_⟩
        · rw [← e]; simp
        · rw [List.map_append]; rfl
  · rintro S1 ⟨f, off, t', u', acc, z4, z5, hz, h', hf, ho, hacc, er, e, rfl⟩
    have hpos := size_pos t'
    obtain ⟨f, rfl⟩ : ∃ f', f = f' + 1 := ⟨f - 1, by omega⟩
    cases hk : alike (stn (mx t' u') t') (stn (mx t' u') u') with
    | true =>
      rw [path_yes hk] at er
      simp [tus] at er
    | false =>
      rw [path_no hk] at e
      refine q_app (d := dPs ⟨mx t' u', off, stn (mx t' u') t', stn (mx t' u') u', none⟩) rfl (e_makeD (e_make (⟨t', u', off⟩ : GIni) (a_consV (e_var rfl) (a_consV (e_var rfl) a_nil)) (look off t' u' h' (by omega)))) (by rw [List.length_map]; omega) ?_
      refine c_retL (ds := (pth t u).map dPs) ?_ rfl
      rw [← e]
      simp
theorem ok_positions_of {P : Program} {w : World} {K : PySem.W.Frag} {mg : Str → Option Value} {base : Heap} {C aI f : Addr} {fd : FuncData} (X : Tx K mg C aI) (F : Fun K "positions_of" "positions_of" s_positions_of f fd) (hm : mg "positions_of" = some (.ref f)) (cf : Cf K C) (D_Position___init__ : Dk P w K mg base 6 C ["self", "terms", "offset"] (sp_Position___init__ K C)) (hP : mg "Position" = some (.ref C)) (D_turns : Df P w K mg base 6 "turns" ["crowd"] (sp_turns K C)) :
    Df P w K mg base 9 "positions_of" ["crowd"] (sp_positions_of K C) :=
  df_mk hm F.kp (F.binds fun _ _ _ _ _ _ us hl => match us, hl with | [_], _ => rfl) (F.ok sc_positions_of spG_len fun cdv A outer s H vs Q E hr h => ⟨t_positions_of K C, pss_cons (ps_set (i := 1) sc_positions_of.nd rfl (by first | exact Or.inl rfl | exact Or.inr rfl) (pe_lst (pa_nil))) (pss_cons (ps_set (i := 2) sc_positions_of.nd rfl (by first | exact Or.inl rfl | exact Or.inr rfl) (pe_callTy call_list_of (by rfl) X.list (by decide +kernel) (pa_cons (pv 0) (pa_nil)))) (pss_cons (ps_set (i := 3) sc_positions_of.nd rfl (by first | exact Or.inl rfl | exact Or.inr rfl) (pe_int)) (pss_cons (ps_for PassesOwn.never rfl (pi_list (pe_own D_turns (hr.mono (by decide)) (by rfl) (pa_cons (pv 0) (pa_nil)))) (pg_name (i := 4) sc_positions_of.nd rfl (by first | exact Or.inl rfl | exact Or.inr rfl)) (pss_cons (ps_set (i := 5) sc_positions_of.nd rfl (by first | exact Or.inl rfl | exact Or.inr rfl) (pe_mk D_Position___init__ (hr.mono (by decide)) (by rfl) hP (pa_cons (pv 2) (pa_cons (pv 3) (pa_nil))))) (pss_cons (ps_fld (pv 5) (pv 4) rfl) (pss_cons (ps_expr (pe_bm PySem.F.plainAttrs_list PySem.F.slot_list_append PySem.F.type_list_append mt_append (pv 1) (pa_cons (pv 5) (pa_nil)))) (pss_cons (ps_aug (i := 3) sc_positions_of.nd rfl (by first | exact Or.inl rfl | exact Or.inr rfl) (pe_fld (pv 5) rfl) ip_add) (pss_one (ps_setLc (i := 2) (own := [("variable", 6), ("arguments", 7)]) (g := gTup K 2 (gCons (gName 6) (gCons (gName 7) (gNil)))) rfl sc_positions_of.nd rfl rfl (sw_true rfl rfl rfl (by decide +kernel)) (pi_list (pe_fld (pv 5) rfl)) (blkOk_by (own := [("variable", 6), ("arguments", 7)]) (N := n_positions_of) (sc := defScope s_positions_of) (by decide +kernel)) (fun _ _ _ _ _ => pg_tup rfl (pgs_cons (pg_name (i := 6) sc_positions_of.nd rfl (by first | exact Or.inl rfl | exact Or.inr rfl)) (pgs_cons (pg_name (i := 7) sc_positions_of.nd rfl (by first | exact Or.inl rfl | exact Or.inr rfl)) (pgs_nil)))) (fun _ _ _ _ _ => pts_nil) (fun _ _ _ _ _ => pe_ix ix_seq (pv 7) (pv 4) (fun _ _ => rfl))))))))) (pss_cons (ps_expr (pe_bm PySem.F.plainAttrs_list PySem.F.slot_list_append PySem.F.type_list_append mt_append (pv 1) (pa_cons (pe_mk D_Position___init__ (hr.mono (by decide)) (by rfl) hP (pa_cons (pv 2) (pa_cons (pv 3) (pa_nil)))) (pa_nil)))) (pss_one (ps_ret (pv 1))))))), run_of (E := E) (c_positions_of K C cf) h⟩)
end Wk
end
section
set_option Elab.async false
set_option autoImplicit false
set_option linter.all false
set_option maxRecDepth 100000
set_option maxHeartbeats 4000000
/-! needs_of, clashes, widths_of. -/
namespace Wk
open PySem L2 Dl Dx Lam
abbrev aPss (xs : List Ps) : List Sl := [.im (.lst (xs.map dPs))]
structure PPs (xs : List Ps) : Prop where
  ok : ∀ x ∈ xs, PsOk x
  n : xs.length ≤ 100
theorem PsOk.hk {x : Ps} (h : PsOk x) : Hk x := ⟨h.p, h.q⟩
def sp_needs_of (K : PySem.W.Frag) (C : Addr) : Sp := spG K C 1 aPss PPs (fun xs d => d = .dic (needs xs))
abbrev s_needs_of : Stmt := topS 46
abbrev n_needs_of : List Str := ["positions", "found", "position", "level", "count"]
theorem sc_needs_of : FnScope n_needs_of ["positions"] (defScope s_needs_of) := ⟨rfl, rfl, rfl, by decide +kernel, rfl, by decide +kernel, by decide +kernel⟩
-- calls: ['Position.levels']; level 2; slots: 0:positions 1:found 2:position 3:level 4:count
def t_needs_of (K : PySem.W.Frag) (C : Addr) : TS := tSeq (tAsg (tDNewK) (gName 1)) (tSeq (tFor (iList K (tVar 0)) (gName 2) (tFor (iList K (tMeth C "levels" (sp_Position_levels K C) [] E0 (tVar 2) tNil)) (gTup K 2 (gCons (gName 3) (gCons (gName 4) (gNil)))) (sDPut (tVar 1) (tVar 3) (tCB (rMaxT) (tCons (tDGet2 (tVar 1) (tVar 3) (tC (.int 0))) (tCons (tVar 4) (tNil))))))) (tRet (tVar 1)))
theorem needL_app (a b : List LC) : needL (a ++ b) = b.foldl putMax (needL a) := by simp [needL, List.foldl_append]
theorem putMax_len (ns : List (Int × Int)) (p : LC) : (putMax ns p).length ≤ ns.length + 1 := putI_len _ _ _
theorem needL_len (ls : List LC) : (needL ls).length ≤ ls.length := by
  have key : ∀ (ls : List LC) (ns : List (Int × Int)), (ls.foldl putMax ns).length ≤ ns.length + ls.length := fun ls => by
    induction ls with
    | nil => intro ns; simp
    | cons p ls ih =>
      intro ns
      have h1 := ih (putMax ns p)
      have h2 := putMax_len ns p
      rw [List.foldl_cons, List.length_cons]
      omega
  have := key ls []
  simpa [needL] using this
theorem flat_lvl (xs : List Ps) : (xs.flatMap lvl).length = 2 * xs.length := by
  induction xs with
  | nil => rfl
  | cons x xs ih => rw [List.flatMap_cons, List.length_append, ih]; simp; omega
theorem c_needs_of (K : PySem.W.Frag) (C : Addr) (cf : Cf K C) (xs : List Ps) (hp : PPs xs) (_ : (aPss xs).length = 1) :
    CmD K C (t_needs_of K C) (aPss xs ++ List.replicate (n_needs_of.length - 1) .un) (fun _ => (.non : D) = .dic (needs xs)) (fun d => d = .dic (needs xs)) no no := by
  refine q_dnew ?_
  refine q_forR (it_list (e_var rfl)) (fun r S1 => ∃ (done rest : List Ps) (z2 z3 z4 : Sl), xs = done ++ rest ∧ r = rest.map dPs ∧ S1 = [.im (.lst (xs.map dPs)), .md (needL (done.flatMap lvl)), z2, z3, z4]) no ⟨[], xs, .un, .un, .un, rfl, rfl, rfl⟩ ?_ ?_ (fun _ h => h.elim)
  · rintro d r S1 ⟨done, rest, z2, z3, z4, e, er, rfl⟩
    cases rest with
    | nil => cases er
    | cons x rest =>
      simp only [List.map_cons, List.cons.injEq] at er
      obtain ⟨rfl, rfl⟩ := er
      have hx := hp.ok x (by rw [e]; simp)
      have hn := hp.n
      rw [e, List.length_append, List.length_cons] at hn
      refine ⟨_, tg_name, ?_⟩
      refine c_forR (it_list (v_meth x (e_var rfl) rfl hx.hk)) (fun r S1 => ∃ (ds es : List LC) (z3 z4 : Sl), lvl x = ds ++ es ∧ r = es.map dLC ∧ S1 = [.im (.lst (xs.map dPs)), .md (needL (done.flatMap lvl ++ ds)), .im (dPs x), z3, z4]) ⟨[], lvl x, z3, z4, rfl, rfl, by rw [List.append_nil]; rfl⟩ ?_ ?_
      · rintro d r2 S2 ⟨ds, es, y3, y4, e2, er2, rfl⟩
        cases es with
        | nil => cases er2
        | cons p es =>
          simp only [List.map_cons, List.cons.injEq] at er2
          obtain ⟨rfl, rfl⟩ := er2
          have hl := needL_len (done.flatMap lvl ++ ds)
          have hl2 := congrArg List.length e2
          rw [List.length_append, flat_lvl] at hl
          simp only [lvl, List.length_cons, List.length_nil, List.length_append] at hl2
          refine ⟨_, tg_two, ?_⟩
          refine c_dput rfl (e_var rfl) (v_is (v_cb (ds := [_, _]) (a_consV (v_peekD (j := 1) rfl scI (v_dget2 (e_var rfl) (e_var rfl) e_int)) (a_consV (e_var rfl) a_nil)) k_max2) rfl) (by omega) ⟨ds ++ [p], es, .im (.int (p.1 : Int)), .im (.int (p.2 : Int)), by rw [e2]; simp, rfl, ?_⟩
          rw [← List.append_assoc, needL_app _ [p]]
          have em : (if (p.2 : Int) > (getI (needL (done.flatMap lvl ++ ds)) (p.1 : Int)).getD 0 then (p.2 : Int) else (getI (needL (done.flatMap lvl ++ ds)) (p.1 : Int)).getD 0) = max ((getI (needL (done.flatMap lvl ++ ds)) (p.1 : Int)).getD 0) (p.2 : Int) := by
            split <;> omega
          show [_, Sl.md (putI _ _ (if (p.2 : Int) > (getI (needL (done.flatMap lvl ++ ds)) (p.1 : Int)).getD 0 then (p.2 : Int) else (getI (needL (done.flatMap lvl ++ ds)) (p.1 : Int)).getD 0)), _, _, _] = _
          rw [em]
          rfl
      · rintro S2 ⟨ds, es, y3, y4, e2, er2, rfl⟩
        have : es = [] := by simpa using er2.symm
        subst this
        rw [List.append_nil] at e2
        refine ⟨done ++ [x], rest, .im (dPs x), y3, y4, by rw [e]; simp, rfl, ?_⟩
        rw [List.flatMap_append, ← e2]
        simp
  · rintro S1 ⟨done, rest, z2, z3, z4, e, er, rfl⟩
    have : rest = [] := by simpa using er.symm
    subst this
    rw [List.append_nil] at e
    subst e
    exact c_freezeD (j := 1) rfl (c_retV (e_var rfl) rfl)
theorem ok_needs_of {P : Program} {w : World} {K : PySem.W.Frag} {mg : Str → Option Value} {base : Heap} {C aI f : Addr} {fd : FuncData} (X : Tx K mg C aI) (F : Fun K "needs_of" "needs_of" s_needs_of f fd) (hm : mg "needs_of" = some (.ref f)) (cf : Cf K C) (D_Position_levels : Dm P w K mg base 1 C "levels" ["self"] (sp_Position_levels K C)) :
    Df P w K mg base 2 "needs_of" ["positions"] (sp_needs_of K C) :=
  df_mk hm F.kp (F.binds fun _ _ _ _ _ _ us hl => match us, hl with | [_], _ => rfl) (F.ok sc_needs_of spG_len fun cdv A outer s H vs Q E hr h => ⟨t_needs_of K C, pss_cons (ps_set (i := 1) sc_needs_of.nd rfl (by first | exact Or.inl rfl | exact Or.inr rfl) (pe_dnewK)) (pss_cons (ps_for PassesOwn.never rfl (pi_list (pv 0)) (pg_name (i := 2) sc_needs_of.nd rfl (by first | exact Or.inl rfl | exact Or.inr rfl)) (pss_one (ps_for PassesOwn.never rfl (pi_list (pe_lev cf D_Position_levels (hr.mono (by decide)) (pv 2))) (pg_tup rfl (pgs_cons (pg_name (i := 3) sc_needs_of.nd rfl (by first | exact Or.inl rfl | exact Or.inr rfl)) (pgs_cons (pg_name (i := 4) sc_needs_of.nd rfl (by first | exact Or.inl rfl | exact Or.inr rfl)) (pgs_nil)))) (pss_one (ps_dput (hu_of hr) (pv 1) (pv 3) (pe_callB (call_max2 rfl) (by rfl) X.max (by decide +kernel) (pa_cons (pe_dget2 (hu_of hr) (pv 1) (pv 3) (pe_int) ⟨rfl, rfl, rfl, rfl⟩) (pa_cons (pv 4) (pa_nil)))) rfl))))) (pss_one (ps_ret (pv 1)))), run_of (E := E) (c_needs_of K C cf) h⟩)
def sp_clashes (K : PySem.W.Frag) (C : Addr) : Sp := fun vs H Q _ => ∃ (w lv : Int) (e d : Addr) (ends : List LC) (ns : List (Int × Int)) (B : Hp), vs = [.int w, .int lv, .ref e, .ref d] ∧ Same B H ∧ Rep K C B (.ref e) (.lst (ends.map dLC)) ∧ B d = none ∧ H d = some (.dK (kvI ns)) ∧
  (∀ o ∈ ns, getI ns o.1 = some o.2) ∧ ∀ H', Same H H' → Q (.bl (clashB w lv ends ns)) H'
theorem spC_len {K : PySem.W.Frag} {C : Addr} (vs : List V) (H : Hp) (Q : VK) (E : XK) (h : sp_clashes K C vs H Q E) : vs.length = 4 := by
  obtain ⟨w, lv, e, d, ends, ns, B, rfl, _⟩ := h
  rfl
abbrev s_clashes : Stmt := topS 47
abbrev n_clashes : List Str := ["width", "level", "ends", "settled", "other", "first", "count", "second", "number"]
theorem sc_clashes : FnScope n_clashes ["width", "level", "ends", "settled"] (defScope s_clashes) := ⟨rfl, rfl, rfl, by decide +kernel, rfl, by decide +kernel, by decide +kernel⟩
-- calls: []; level 1; slots: 0:width 1:level 2:ends 3:settled 4:other 5:first 6:count 7:second 8:number
def t_clashes (K : PySem.W.Frag) (C : Addr) : TS := tSeq (tLock (tFor (iKeys (tVar 3)) (gName 4) (tFor (iList K (tVar 2)) (gTup K 2 (gCons (gName 5) (gCons (gName 6) (gNil)))) (tFor (iList K (tVar 2)) (gTup K 2 (gCons (gName 7) (gCons (gName 8) (gNil)))) (tIfS (tAnd (tTest (tOp (rEq) (tVar 5) (tVar 1))) (tAnd (tTest (tOp (rEq) (tVar 7) (tVar 4))) (tTest (tOp (rEq) (tOp (rSubI) (tVar 0) (tVar 6)) (tOp (rSubI) (tDGet (tVar 3) (tVar 4)) (tVar 8)))))) (tRet (tC (.bl true))) (tNext)))))) (tRet (tC (.bl false)))
def fc (K : PySem.W.Frag) : TS := tFor (iKeys (tVar 3)) (gName 4) (tFor (iList K (tVar 2)) (gTup K 2 (gCons (gName 5) (gCons (gName 6) (gNil)))) (tFor (iList K (tVar 2)) (gTup K 2 (gCons (gName 7) (gCons (gName 8) (gNil)))) (tIfS (tAnd (tTest (tOp (rEq) (tVar 5) (tVar 1))) (tAnd (tTest (tOp (rEq) (tVar 7) (tVar 4))) (tTest (tOp (rEq) (tOp (rSubI) (tVar 0) (tVar 6)) (tOp (rSubI) (tDGet (tVar 3) (tVar 4)) (tVar 8)))))) (tRet (tC (.bl true))) (tNext))))
def cl1 (w l : Int) (o : Int × Int) (a b : LC) : Bool := decide ((a.1 : Int) = l) && (decide ((b.1 : Int) = o.1) && decide (w - (a.2 : Int) = o.2 - (b.2 : Int)))
theorem map_cons_inv {α : Type} {f : α → D} {d : D} {r : List D} {as : List α} (h : d :: r = as.map f) : ∃ a as', as = a :: as' ∧ d = f a ∧ r = as'.map f := by
  cases as with
  | nil => cases h
  | cons a as' =>
    simp only [List.map_cons, List.cons.injEq] at h
    exact ⟨a, as', rfl, h.1, h.2⟩
theorem map_nil_inv {α : Type} {f : α → D} {as : List α} (h : [] = as.map f) : as = [] := by simpa using h.symm
theorem cm_fc (K : PySem.W.Frag) (C : Addr) (w lv : Int) (d : Addr) (od : Obj) (ends : List LC) (ns : List (Int × Int)) (hk : ∀ o ∈ ns, getI ns o.1 = some o.2) :
    CmD K C (fc K) [.im (.int w), .im (.int lv), .im (.lst (ends.map dLC)), .fz d (.frz od (.dK (kvI ns))), .un, .un, .un, .un, .un] (fun _ => clashB w lv ends ns = false) (fun x => x = .bl true ∧ clashB w lv ends ns = true) no no := by
  refine c_forR (it_keys rfl) (fun r S1 => ∃ (os : List (Int × Int)) (z4 z5 z6 z7 z8 : Sl), r = os.map (fun o => .int o.1) ∧ (∀ o ∈ os, o ∈ ns) ∧ clashB w lv ends ns = os.any (fun o => ends.any fun a => ends.any fun b => cl1 w lv o a b) ∧
    S1 = [.im (.int w), .im (.int lv), .im (.lst (ends.map dLC)), .fz d (.frz od (.dK (kvI ns))), z4, z5, z6, z7, z8]) ⟨ns, .un, .un, .un, .un, .un, rfl, fun o h => h, rfl, rfl⟩ ?_ ?_
  · rintro x r S1 ⟨os, z4, z5, z6, z7, z8, er, hin, hc, rfl⟩
    obtain ⟨o, os', rfl, rfl, rfl⟩ := map_cons_inv er
    refine ⟨_, tg_name, ?_⟩
    have hin' : ∀ x ∈ os', x ∈ ns := fun x hx => hin x (List.mem_cons_of_mem _ hx)
    rw [List.any_cons] at hc
    refine c_forR (it_list (e_var rfl)) (fun r S1 => ∃ (as : List LC) (z5 z6 z7 z8 : Sl), r = as.map dLC ∧ clashB w lv ends ns = (as.any (fun a => ends.any fun b => cl1 w lv o a b) || os'.any (fun o => ends.any fun a => ends.any fun b => cl1 w lv o a b)) ∧
      S1 = [.im (.int w), .im (.int lv), .im (.lst (ends.map dLC)), .fz d (.frz od (.dK (kvI ns))), .im (.int o.1), z5, z6, z7, z8]) ⟨ends, z5, z6, z7, z8, rfl, hc, rfl⟩ ?_ ?_
    · rintro x r S1 ⟨as, y5, y6, y7, y8, er2, hc2, rfl⟩
      obtain ⟨a, as', rfl, rfl, rfl⟩ := map_cons_inv er2
      refine ⟨_, tg_two, ?_⟩
      rw [List.any_cons] at hc2
      refine c_forR (it_list (e_var rfl)) (fun r S1 => ∃ (bs : List LC) (z7 z8 : Sl), r = bs.map dLC ∧ clashB w lv ends ns = ((bs.any (fun b => cl1 w lv o a b) || as'.any (fun a => ends.any fun b => cl1 w lv o a b)) || os'.any (fun o => ends.any fun a => ends.any fun b => cl1 w lv o a b)) ∧
        S1 = [.im (.int w), .im (.int lv), .im (.lst (ends.map dLC)), .fz d (.frz od (.dK (kvI ns))), .im (.int o.1), .im (.int (a.1 : Int)), .im (.int (a.2 : Int)), z7, z8]) ⟨ends, y7, y8, rfl, hc2, rfl⟩ ?_ ?_
      · rintro x r S1 ⟨bs, w7, w8, er3, hc3, rfl⟩
        obtain ⟨b, bs', rfl, rfl, rfl⟩ := map_cons_inv er3
        refine ⟨_, tg_two, ?_⟩
        rw [List.any_cons] at hc3
        have tst : TsD K C (tAnd (tTest (tOp (rEq) (tVar 5) (tVar 1))) (tAnd (tTest (tOp (rEq) (tVar 7) (tVar 4))) (tTest (tOp (rEq) (tOp (rSubI) (tVar 0) (tVar 6)) (tOp (rSubI) (tDGet (tVar 3) (tVar 4)) (tVar 8)))))) (([Sl.im (.int w), .im (.int lv), .im (.lst (ends.map dLC)), .fz d (.frz od (.dK (kvI ns))), .im (.int o.1), .im (.int (a.1 : Int)), .im (.int (a.2 : Int)), w7, w8].set 7 (.im (.int (b.1 : Int)))).set 8 (.im (.int (b.2 : Int)))) (fun x => x = cl1 w lv o a b) :=
          t_andV (t_testV (v_op (e_var rfl) (e_var rfl) o_eqII)) fun _ => t_andV (t_testV (v_op (e_var rfl) (e_var rfl) o_eqII)) fun _ => t_testV (v_op (v_op (e_var rfl) (e_var rfl) o_sub) (v_op (v_dgetF rfl (e_var rfl) (hk o (hin o List.mem_cons_self))) (e_var rfl) o_sub) o_eqII)
        refine c_if tst (fun hb => c_retV e_bl ⟨rfl, ?_⟩) (fun hb => c_next ⟨bs', .im (.int (b.1 : Int)), .im (.int (b.2 : Int)), rfl, ?_, rfl⟩)
        · rw [hc3, ← hb]; simp
        · rw [hc3, ← hb]; simp
      · rintro S1 ⟨bs, w7, w8, er3, hc3, rfl⟩
        have := map_nil_inv er3
        subst this
        exact ⟨as', .im (.int (a.1 : Int)), .im (.int (a.2 : Int)), w7, w8, rfl, by rw [hc3]; simp, rfl⟩
    · rintro S1 ⟨as, y5, y6, y7, y8, er2, hc2, rfl⟩
      have := map_nil_inv er2
      subst this
      exact ⟨os', .im (.int o.1), y5, y6, y7, y8, rfl, hin', by rw [hc2]; simp, rfl⟩
  · rintro S1 ⟨os, z4, z5, z6, z7, z8, er, hin, hc, rfl⟩
    have := map_nil_inv er
    subst this
    rw [hc]; rfl
theorem c_clashes (K : PySem.W.Frag) (C : Addr) {vs : List V} {H : Hp} {Q : VK} {E : XK} (h : sp_clashes K C vs H Q E) : t_clashes K C { nx := fun _ H' => Q .non H', rt := Q } (L2.start n_clashes vs) H := by
  obtain ⟨w, lv, e, d, ends, ns, B, rfl, sm, re, nB, hd, hk, q⟩ := h
  refine ⟨d, _, hd, trivial, fun od => ?_⟩
  have smB : Same B (upd B d (.frz od (.dK (kvI ns)))) := fun x u e => by rw [upd_ne (ne_of_none e nB)]; exact e
  have nz : ∀ a, ¬ Zat none a := fun a ⟨l, n, e⟩ => by cases e
  have hold : Holds K C none (upd B d (.frz od (.dK (kvI ns)))) (upd H d (.frz od (.dK (kvI ns)))) (L2.start n_clashes [.int w, .int lv, .ref e, .ref d]) [.im (.int w), .im (.int lv), .im (.lst (ends.map dLC)), .fz d (.frz od (.dK (kvI ns))), .un, .un, .un, .un, .un] := by
    refine ⟨rfl, fun a u ea => ?_, ⟨fun p l n e => by cases e⟩, fun i s es => ?_, fun i j s t _ e1 _ o1 _ => ?_⟩
    · by_cases z : a = d
      · subst z; rw [upd_same] at ea ⊢; exact ea
      · rw [upd_ne z] at ea ⊢; exact sm a u ea
    · match i, es with
      | 0, es => cases es; exact ⟨_, rfl, .int w⟩
      | 1, es => cases es; exact ⟨_, rfl, .int lv⟩
      | 2, es => cases es; exact ⟨_, rfl, re.mono smB⟩
      | 3, es => cases es; exact ⟨rfl, upd_same⟩
      | 4, es => cases es; trivial
      | 5, es => cases es; trivial
      | 6, es => cases es; trivial
      | 7, es => cases es; trivial
      | 8, es => cases es; trivial
      | i + 9, es => simp at es
    · match i, e1 with
      | 0, e1 => cases e1; cases o1
      | 1, e1 => cases e1; cases o1
      | 2, e1 => cases e1; cases o1
      | 3, e1 => cases e1; cases o1
      | 4, e1 => cases e1; cases o1
      | 5, e1 => cases e1; cases o1
      | 6, e1 => cases e1; cases o1
      | 7, e1 => cases e1; cases o1
      | 8, e1 => cases e1; cases o1
      | i + 9, e1 => simp at e1
  have nown : ∀ a, ¬ OwnAt [.im (.int w), .im (.int lv), .im (.lst (ends.map dLC)), .fz d (.frz od (.dK (kvI ns))), .un, .un, .un, .un, .un] (L2.start n_clashes [.int w, .int lv, .ref e, .ref d]) a := fun a ⟨i, s, e1, o1, _⟩ => by
    match i, e1 with
    | 0, e1 => cases e1; cases o1
    | 1, e1 => cases e1; cases o1
    | 2, e1 => cases e1; cases o1
    | 3, e1 => cases e1; cases o1
    | 4, e1 => cases e1; cases o1
    | 5, e1 => cases e1; cases o1
    | 6, e1 => cases e1; cases o1
    | 7, e1 => cases e1; cases o1
    | 8, e1 => cases e1; cases o1
    | i + 9, e1 => simp at e1
  have back : ∀ H' : Hp, (∀ a o, (upd H d (.frz od (.dK (kvI ns)))) a = some o → H' a = some o) → H' d = some (.frz od (.dK (kvI ns))) ∧ Same H (upd H' d (.dK (kvI ns))) := fun H' k => by
    refine ⟨k d _ upd_same, fun a o ea => ?_⟩
    by_cases z : a = d
    · subst z; rw [upd_same]; rw [hd] at ea; exact ea
    · rw [upd_ne z]; exact k a o (by rw [upd_ne z]; exact ea)
  refine cm_fc K C w lv d od ends ns hk none _ _ _ _ hold (fun S' σ' B' H' hN st => ?_) (fun v x B' H' hR f r => ?_) (fun S' σ' B' H' p _ => p.elim) (fun S' σ' B' H' p _ => p.elim)
  · obtain ⟨b1, b2⟩ := back H' fun a o ea => (st.kp a o ea (nz a) (nown a)).1
    refine ⟨b1, ?_⟩
    have := q _ b2
    rw [hN] at this
    exact this
  · obtain ⟨b1, b2⟩ := back H' fun a o ea => f.kp a o ea (nz a) (nown a)
    refine ⟨b1, ?_⟩
    have := q _ b2
    rw [hR.2] at this
    obtain ⟨rfl, _⟩ := hR
    cases r
    exact this
theorem ok_clashes {P : Program} {w : World} {K : PySem.W.Frag} {mg : Str → Option Value} {base : Heap} {C aI f : Addr} {fd : FuncData} (X : Tx K mg C aI) (F : Fun K "clashes" "clashes" s_clashes f fd) (hm : mg "clashes" = some (.ref f))  :
    Df P w K mg base 1 "clashes" ["width", "level", "ends", "settled"] (sp_clashes K C) :=
  df_mk hm F.kp (F.binds fun _ _ _ _ _ _ us hl => match us, hl with | [_, _, _, _], _ => rfl) (F.ok sc_clashes spC_len fun cdv A outer s H vs Q E hr h => ⟨t_clashes K C, pss_cons (ps_lock (ps_for PassesOwn.never rfl (pi_keys (pv 3)) (pg_name (i := 4) sc_clashes.nd rfl (by first | exact Or.inl rfl | exact Or.inr rfl)) (pss_one (ps_for PassesOwn.never rfl (pi_list (pv 2)) (pg_tup rfl (pgs_cons (pg_name (i := 5) sc_clashes.nd rfl (by first | exact Or.inl rfl | exact Or.inr rfl)) (pgs_cons (pg_name (i := 6) sc_clashes.nd rfl (by first | exact Or.inl rfl | exact Or.inr rfl)) (pgs_nil)))) (pss_one (ps_for PassesOwn.never rfl (pi_list (pv 2)) (pg_tup rfl (pgs_cons (pg_name (i := 7) sc_clashes.nd rfl (by first | exact Or.inl rfl | exact Or.inr rfl)) (pgs_cons (pg_name (i := 8) sc_clashes.nd rfl (by first | exact Or.inl rfl | exact Or.inr rfl)) (pgs_nil)))) (pss_one (ps_if (PW.pt (pw_and (pt_cmpR (op_eq) (pv 5) (pv 1) (nomark _)) (pw_and (pt_cmpR (op_eq) (pv 7) (pv 4) (nomark _)) (pw_and1 (pt_cmpR (op_eq) (pe_op op_sub (pv 0) (pv 6)) (pe_op op_sub (pe_dget (hu_of hr) (pv 3) (pv 4) (fun _ _ => rfl)) (pv 8)) (nomark _)))))) (pss_one (ps_ret (pe_bl))) (pss_nil))))))))) (pss_one (ps_ret (pe_bl))), (c_clashes K C h)⟩)
end Wk
end
section
set_option Elab.async false
set_option autoImplicit false
set_option linter.all false
set_option maxRecDepth 100000
set_option maxHeartbeats 4000000
/-! widths_of, groups_of, tuplers_of. -/
namespace Wk
open PySem L2 Dl Dx Lam
theorem atI_last {α : Type} {r : List α} {x : α} : atI (r ++ [x]) (-1) = some x := by
  unfold atI ixN
  rw [if_neg (by decide), if_pos (by simp; omega)]
  have e : ((-1 : Int) + (((r ++ [x]).length : Nat) : Int)).toNat = r.length := by simp; omega
  rw [Option.bind_some, e]
  simp
theorem v_clash {K : PySem.W.Frag} {C : Addr} {S : List Sl} {a b c j : Nat} {w l : Int} {ends : List LC} {ns : List (Int × Int)} (ha : S[a]? = some (.im (.int w))) (hb : S[b]? = some (.im (.int l))) (hc : S[c]? = some (.im (.lst (ends.map dLC)))) (hj : S[j]? = some (.md ns))
    (hk : ∀ o ∈ ns, getI ns o.1 = some o.2) : VlD K C (tCall (sp_clashes K C) [] E0 (tCons (tVar a) (tCons (tVar b) (tCons (tVar c) (tCons (tVar j) tNil))))) S (.bl (clashB w l ends ns)) := fun Z B H σ Q hh q => by
  obtain ⟨v1, e1, r1⟩ := hh.slot a _ ha
  obtain ⟨v2, e2, r2⟩ := hh.slot b _ hb
  obtain ⟨v3, e3, r3⟩ := hh.slot c _ hc
  obtain ⟨p, e4, nb, nz, hp⟩ := hh.slot j _ hj
  cases r1
  cases r2
  have r3' := r3
  cases r3 with
  | @lst e vs _ he hr => exact ⟨_, e1, _, e2, _, e3, _, e4, w, l, e, p, ends, ns, B, rfl, hh.sub, r3', nb, hp, hk, fun H' sm => q _ _ B H' rfl (.heap hh.sub hh.str sm) (.bl _)⟩
def sp_widths_of (K : PySem.W.Frag) (C : Addr) : Sp := spG K C 1 aPss (fun xs => PPs xs ∧ xs ≠ []) (fun xs d => d = .dic (widths xs))
abbrev s_widths_of : Stmt := topS 48
abbrev n_widths_of : List Str := ["positions", "needs", "ends", "settled", "level", "_", "width"]
theorem sc_widths_of : FnScope n_widths_of ["positions"] (defScope s_widths_of) := ⟨rfl, rfl, rfl, by decide +kernel, rfl, by decide +kernel, by decide +kernel⟩
-- calls: ['Position.levels', 'clashes', 'needs_of']; level 3; slots: 0:positions 1:needs 2:ends 3:settled 4:level 5:_ 6:width
def t_widths_of (K : PySem.W.Frag) (C : Addr) : TS := tSeq (tAsg (tCall (sp_needs_of K C) [] E0 (tCons (tVar 0) (tNil))) (gName 1)) (tSeq (tAsg (tMeth C "levels" (sp_Position_levels K C) [] E0 (tOp (rIx K) (tVar 0) (tUn (rU fun i => .int (-i)) (tC (.int 1)))) tNil) (gName 2)) (tSeq (tAsg (tDNewK) (gName 3)) (tSeq (tFor (iList K (tVar 2)) (gTup K 2 (gCons (gName 4) (gCons (gName 5) (gNil)))) (tIfS (tB (tDNotIn (tVar 4) (tVar 3))) (tSeq (tAsg (tDGet (tVar 1) (tVar 4)) (gName 6)) (tSeq (tWhile (tB (tCall (sp_clashes K C) [] E0 (tCons (tVar 6) (tCons (tVar 4) (tCons (tVar 2) (tCons (tVar 3) (tNil))))))) (tAug 6 (tC (.int 1)) (ipI fun i j => i + j))) (sDPut (tVar 3) (tVar 4) (tVar 6)))) (tNext))) (tRet (tMerge (tVar 1) (tVar 3))))))
theorem last_of {xs : List Ps} (h : xs ≠ []) : ∃ r, xs = r ++ [lastPs xs] := by
  refine ⟨xs.dropLast, ?_⟩
  have := List.dropLast_concat_getLast h
  rw [lastPs, List.getLastD_eq_getLast?, List.getLast?_eq_some_getLast h]
  exact this.symm
theorem last_mem {xs : List Ps} (h : xs ≠ []) : lastPs xs ∈ xs := by
  obtain ⟨r, e⟩ := last_of h
  rw [e]
  simp
theorem needs_cov {xs : List Ps} (h : PPs xs) : Cov 80 (xs.flatMap lvl) (needs xs) := by
  refine needL_cov 80 _ fun p hp => ?_
  obtain ⟨x, hx, hpx⟩ := List.mem_flatMap.mp hp
  have := h.ok x hx
  simp only [lvl, List.mem_cons, List.not_mem_nil, or_false] at hpx
  rcases hpx with rfl | rfl
  · exact this.lp
  · exact this.lq
theorem clash_two {p1 p2 : LC} {w n1 : Int} (h : ¬ ((p1.1 : Int) = (p2.1 : Int))) : clashB w (p2.1 : Int) [p1, p2] [((p1.1 : Int), n1)] = decide (w - (p2.2 : Int) = n1 - (p1.2 : Int)) := by
  have h' : ¬ ((p2.1 : Int) = (p1.1 : Int)) := fun e => h e.symm
  simp [clashB, h, h']
theorem c_widths_of (K : PySem.W.Frag) (C : Addr) (cf : Cf K C) (xs : List Ps) (hp : PPs xs ∧ xs ≠ []) (_ : (aPss xs).length = 1) :
    CmD K C (t_widths_of K C) (aPss xs ++ List.replicate (n_widths_of.length - 1) .un) (fun _ => (.non : D) = .dic (widths xs)) (fun d => d = .dic (widths xs)) no no := by
  obtain ⟨hp, hne⟩ := hp
  have hcov := needs_cov hp
  have hmem := last_mem hne
  have hx := hp.ok _ hmem
  obtain ⟨r, er⟩ := last_of hne
  have hlenN : (needs xs).length ≤ 2 * xs.length := by
    have := needL_len (xs.flatMap lvl)
    rw [flat_lvl] at this
    exact this
  have hn100 := hp.n
  generalize ew : widths xs = W
  unfold widths at ew
  generalize exl : lastPs xs = x at *
  generalize ens : needs xs = ns at *
  have g1 : ∃ n : Nat, getI ns ((lvP x).1 : Int) = some (n : Int) ∧ (lvP x).2 ≤ n := hcov.le _ (List.mem_flatMap.mpr ⟨x, hmem, by simp [lvl]⟩)
  have g2 : ∃ n : Nat, getI ns ((lvQ x).1 : Int) = some (n : Int) ∧ (lvQ x).2 ≤ n := hcov.le _ (List.mem_flatMap.mpr ⟨x, hmem, by simp [lvl]⟩)
  obtain ⟨n1, g1, _⟩ := g1
  obtain ⟨n2, g2, _⟩ := g2
  refine q_setE (v_call xs (a_consV (e_var rfl) a_nil) hp) ?_
  rintro d rfl
  rw [ens]
  refine q_setE (v_meth x (v_op (e_var rfl) (v_neg e_int) (o_ixL (d := dPs x) (by rw [er, List.map_append]; exact atI_last))) rfl hx.hk) ?_
  rintro d rfl
  refine q_dnew ?_
  generalize ep1 : lvP x = p1 at *
  generalize ep2 : lvQ x = p2 at *
  have est : settled ns p1 p2 = if p1.1 = p2.1 then [((p1.1 : Int), (n1 : Int))] else [((p1.1 : Int), (n1 : Int)), ((p2.1 : Int), wid2 (n2 : Int) (p2.2 : Int) (n1 : Int) (p1.2 : Int))] := by
    simp only [settled, g1, g2, Option.getD_some]
  refine q_forR (it_list (ds := [dLC p1, dLC p2]) (e_var (i := 2) (by rw [← ep1, ← ep2]; rfl))) (fun r S1 => ∃ (z4 z5 z6 : Sl), (r = [dLC p1, dLC p2] ∧ S1 = [.im (.lst (xs.map dPs)), .im (.dic ns), .im (.lst [dLC p1, dLC p2]), .md [], z4, z5, z6]) ∨
    (r = [dLC p2] ∧ S1 = [.im (.lst (xs.map dPs)), .im (.dic ns), .im (.lst [dLC p1, dLC p2]), .md [((p1.1 : Int), (n1 : Int))], z4, z5, z6]) ∨
    (r = [] ∧ S1 = [.im (.lst (xs.map dPs)), .im (.dic ns), .im (.lst [dLC p1, dLC p2]), .md (settled ns p1 p2), z4, z5, z6])) no ⟨.un, .un, .un, .inl ⟨rfl, by rw [← ep1, ← ep2]; rfl⟩⟩ ?_ ?_ (fun _ h => h.elim)
  · rintro d r S1 ⟨z4, z5, z6, ⟨er1, rfl⟩ | ⟨er1, rfl⟩ | ⟨er1, _⟩⟩
    · simp only [List.cons.injEq] at er1
      obtain ⟨rfl, rfl⟩ := er1
      refine ⟨_, tg_two, ?_⟩
      refine c_yes (ts_is (t_bV (v_peekD (j := 3) rfl scB (v_dnotin (e_var rfl) (e_var rfl)))) rfl) ?_
      refine q_set (v_dget (e_var rfl) (e_var rfl) g1) ?_
      refine q_while (fun m S1 => S1 = [.im (.lst (xs.map dPs)), .im (.dic ns), .im (.lst [dLC p1, dLC p2]), .md [], .im (.int (p1.1 : Int)), .im (.int (p1.2 : Int)), .im (.int (n1 : Int))]) no 0 rfl ?_ (fun _ h => h.elim)
      rintro m S1 rfl
      refine ⟨_, t_bV (v_clash (ends := [p1, p2]) rfl rfl rfl rfl (by simp)), (fun e => by simp [clashB] at e), fun _ => ?_⟩
      exact c_dput rfl (e_var rfl) (e_var rfl) (by simp) ⟨.im (.int (p1.1 : Int)), .im (.int (p1.2 : Int)), .im (.int (n1 : Int)), .inr (.inl ⟨rfl, rfl⟩)⟩
    · simp only [List.cons.injEq] at er1
      obtain ⟨rfl, rfl⟩ := er1
      refine ⟨_, tg_two, ?_⟩
      by_cases hl : p1.1 = p2.1
      · refine c_no (ts_is (t_bV (v_peekD (j := 3) rfl scB (v_dnotin (e_var rfl) (e_var rfl)))) (by simp [getI, hl])) (c_next ⟨.im (.int (p2.1 : Int)), .im (.int (p2.2 : Int)), z6, .inr (.inr ⟨rfl, ?_⟩)⟩)
        rw [est, if_pos hl]
        rfl
      · have hl2 : ¬ ((p1.1 : Int) = (p2.1 : Int)) := by omega
        refine c_yes (ts_is (t_bV (v_peekD (j := 3) rfl scB (v_dnotin (e_var rfl) (e_var rfl)))) (by simp [getI, hl2])) ?_
        refine q_set (v_dget (e_var rfl) (e_var rfl) g2) ?_
        refine q_while (fun m S1 => ∃ w : Int, ((m = 1 ∧ w = (n2 : Int) ∧ (n2 : Int) - (p2.2 : Int) = (n1 : Int) - (p1.2 : Int)) ∨ (m = 0 ∧ w = wid2 (n2 : Int) (p2.2 : Int) (n1 : Int) (p1.2 : Int))) ∧
          S1 = [.im (.lst (xs.map dPs)), .im (.dic ns), .im (.lst [dLC p1, dLC p2]), .md [((p1.1 : Int), (n1 : Int))], .im (.int (p2.1 : Int)), .im (.int (p2.2 : Int)), .im (.int w)]) no (if (n2 : Int) - (p2.2 : Int) = (n1 : Int) - (p1.2 : Int) then 1 else 0) ⟨(n2 : Int), ?_, rfl⟩ ?_ (fun _ h => h.elim)
        · by_cases h5 : (n2 : Int) - (p2.2 : Int) = (n1 : Int) - (p1.2 : Int)
          · exact .inl ⟨if_pos h5, rfl, h5⟩
          · exact .inr ⟨if_neg h5, by unfold wid2; rw [if_neg h5]⟩
        · rintro m S1 ⟨w, hw, rfl⟩
          refine ⟨_, ts_is (t_bV (v_clash (ends := [p1, p2]) rfl rfl rfl rfl ?_)) (clash_two hl2), fun hb => ?_, fun hb => ?_⟩
          · intro o ho
            simp only [List.mem_singleton] at ho
            subst ho
            simp [getI]
          · have h5 : w - (p2.2 : Int) = (n1 : Int) - (p1.2 : Int) := of_decide_eq_true hb.symm
            rcases hw with ⟨rfl, h6, h7⟩ | ⟨_, h6⟩
            · subst h6
              refine c_aug rfl e_int ⟨0, by omega, (n2 : Int) + 1, .inr ⟨rfl, by unfold wid2; rw [if_pos h7]⟩, rfl⟩
            · unfold wid2 at h6
              split at h6 <;> omega
          · have h5 : ¬ w - (p2.2 : Int) = (n1 : Int) - (p1.2 : Int) := of_decide_eq_false hb.symm
            have h6 : w = wid2 (n2 : Int) (p2.2 : Int) (n1 : Int) (p1.2 : Int) := by
              rcases hw with ⟨_, h6, h7⟩ | ⟨_, h6⟩
              · rw [h6] at h5; exact absurd h7 h5
              · exact h6
            subst h6
            refine c_dput rfl (e_var rfl) (e_var rfl) (by simp) ⟨.im (.int (p2.1 : Int)), .im (.int (p2.2 : Int)), .im (.int (wid2 (n2 : Int) (p2.2 : Int) (n1 : Int) (p1.2 : Int))), .inr (.inr ⟨rfl, ?_⟩)⟩
            rw [est, if_neg hl]
            simp [putI, hl2]
    · cases er1
  · rintro S1 ⟨z4, z5, z6, ⟨er1, _⟩ | ⟨er1, _⟩ | ⟨_, rfl⟩⟩
    · cases er1
    · cases er1
    · refine c_freezeD (j := 3) rfl (c_retV (v_merge (e_var rfl) (e_var rfl) (by omega) ?_) (by rw [ew]))
      rw [est]
      split <;> simp
theorem ok_widths_of {P : Program} {w : World} {K : PySem.W.Frag} {mg : Str → Option Value} {base : Heap} {C aI f : Addr} {fd : FuncData} (X : Tx K mg C aI) (F : Fun K "widths_of" "widths_of" s_widths_of f fd) (hm : mg "widths_of" = some (.ref f)) (cf : Cf K C) (D_Position_levels : Dm P w K mg base 1 C "levels" ["self"] (sp_Position_levels K C)) (D_clashes : Df P w K mg base 1 "clashes" ["width", "level", "ends", "settled"] (sp_clashes K C)) (D_needs_of : Df P w K mg base 2 "needs_of" ["positions"] (sp_needs_of K C)) :
    Df P w K mg base 3 "widths_of" ["positions"] (sp_widths_of K C) :=
  df_mk hm F.kp (F.binds fun _ _ _ _ _ _ us hl => match us, hl with | [_], _ => rfl) (F.ok sc_widths_of spG_len fun cdv A outer s H vs Q E hr h => ⟨t_widths_of K C, pss_cons (ps_set (i := 1) sc_widths_of.nd rfl (by first | exact Or.inl rfl | exact Or.inr rfl) (pe_own D_needs_of (hr.mono (by decide)) (by rfl) (pa_cons (pv 0) (pa_nil)))) (pss_cons (ps_set (i := 2) sc_widths_of.nd rfl (by first | exact Or.inl rfl | exact Or.inr rfl) (pe_lev cf D_Position_levels (hr.mono (by decide)) (pe_ix ix_seq (pv 0) (pe_un un_neg (pe_int)) (fun _ _ => rfl)))) (pss_cons (ps_set (i := 3) sc_widths_of.nd rfl (by first | exact Or.inl rfl | exact Or.inr rfl) (pe_dnewK)) (pss_cons (ps_for PassesOwn.never rfl (pi_list (pv 2)) (pg_tup rfl (pgs_cons (pg_name (i := 4) sc_widths_of.nd rfl (by first | exact Or.inl rfl | exact Or.inr rfl)) (pgs_cons (pg_name (i := 5) sc_widths_of.nd rfl (by first | exact Or.inl rfl | exact Or.inr rfl)) (pgs_nil)))) (pss_one (ps_if (pt_cmp (pc_dnotin (hu_of hr) (pv 4) (pv 3))) (pss_cons (ps_set (i := 6) sc_widths_of.nd rfl (by first | exact Or.inl rfl | exact Or.inr rfl) (pe_dget (hu_of hr) (pv 1) (pv 4) (fun _ _ => rfl))) (pss_cons (ps_while PassesOwn.never (pt_val (pe_own D_clashes (hr.mono (by decide)) (by rfl) (pa_cons (pv 6) (pa_cons (pv 4) (pa_cons (pv 2) (pa_cons (pv 3) (pa_nil))))))) (pss_one (ps_aug (i := 6) sc_widths_of.nd rfl (by first | exact Or.inl rfl | exact Or.inr rfl) (pe_int) ip_add))) (pss_one (ps_dput (hu_of hr) (pv 3) (pv 4) (pv 6) rfl)))) (pss_nil)))) (pss_one (ps_ret (pe_merge (pv 1) (pv 3))))))), run_of (E := E) (c_widths_of K C cf) h⟩)
end Wk
end
section
set_option Elab.async false
set_option autoImplicit false
set_option linter.all false
set_option maxRecDepth 100000
set_option maxHeartbeats 4000000
/-! groups_of, tuplers_of, choices_at_end. -/
namespace Wk
open PySem L2 Dl Dx Lam
theorem dLC_inj {p q : LC} (h : dLC p = dLC q) : p = q := by
  simp only [dLC, D.tup.injEq, List.cons.injEq, D.int.injEq, and_true] at h
  exact Prod.ext (by omega) (by omega)
theorem isq_LC (p : LC) : isq 1 (dLC p) = true := rfl
theorem isqs_LC : ∀ ps : List LC, isqs 1 (ps.map dLC) = true
  | [] => rfl
  | p :: ps => by
    have := isqs_LC ps
    simp only [List.map_cons, isqs, isq_LC, this]
    rfl
def sp_groups_of (K : PySem.W.Frag) (C : Addr) : Sp := spG K C 1 (fun x : Ps => [.im (dLv x)]) (fun x => lvP x ≠ lvQ x) (fun _ d => d = .lst [.int 0, .int 1])
abbrev s_groups_of : Stmt := topS 49
abbrev n_groups_of : List Str := ["ends", "found", "groups", "head"]
theorem sc_groups_of : FnScope n_groups_of ["ends"] (defScope s_groups_of) := ⟨rfl, rfl, rfl, by decide +kernel, rfl, by decide +kernel, by decide +kernel⟩
-- calls: []; level 1; slots: 0:ends 1:found 2:groups 3:head
def t_groups_of (K : PySem.W.Frag) (C : Addr) : TS := tSeq (tAsg (tLst (tNil)) (gName 1)) (tSeq (tAsg (tLst (tNil)) (gName 2)) (tSeq (tFor (iList K (tVar 0)) (gName 3) (tSeq (tIfS (tTest (tOp (rNotInD K) (tVar 3) (tVar 1))) (tDrop (tBM K "list" (rAppend) (tVar 1) (tCons (tVar 3) (tNil)))) (tNext)) (tDrop (tBM K "list" (rAppend) (tVar 2) (tCons (tBM K "list" (rIndexD K) (tVar 1) (tCons (tVar 3) (tNil))) (tNil)))))) (tRet (tVar 2))))
theorem c_groups_of (K : PySem.W.Frag) (C : Addr) (x : Ps) (hp : lvP x ≠ lvQ x) (_ : ([.im (dLv x)] : List Sl).length = 1) :
    CmD K C (t_groups_of K C) ([.im (dLv x)] ++ List.replicate (n_groups_of.length - 1) .un) (fun _ => (.non : D) = .lst [.int 0, .int 1]) (fun d => d = .lst [.int 0, .int 1]) no no := by
  show CmD K C (t_groups_of K C) [.im (.lst [dLC (lvP x), dLC (lvQ x)]), .un, .un, .un] _ _ _ _
  generalize lvP x = p at *
  generalize lvQ x = q at *
  refine q_lst0 (q_lst0 ?_)
  refine q_forR (it_list (e_var rfl)) (fun r S1 => ∃ z, (r = [dLC p, dLC q] ∧ S1 = [.im (.lst [dLC p, dLC q]), .ml [], .ml [], z]) ∨ (r = [dLC q] ∧ S1 = [.im (.lst [dLC p, dLC q]), .ml [dLC p], .ml [.int 0], z]) ∨ (r = [] ∧ S1 = [.im (.lst [dLC p, dLC q]), .ml [dLC p, dLC q], .ml [.int 0, .int 1], z])) no
    ⟨.un, .inl ⟨rfl, rfl⟩⟩ ?_ ?_ (fun _ h => h.elim)
  · rintro d r S1 ⟨z, ⟨er1, rfl⟩ | ⟨er1, rfl⟩ | ⟨er1, _⟩⟩
    · simp only [List.cons.injEq] at er1
      obtain ⟨rfl, rfl⟩ := er1
      refine ⟨_, tg_name, ?_⟩
      refine q_yes (t_peek (j := 1) rfl (t_testV (v_op (e_var rfl) (e_var rfl) (o_notInD (b := false) (isq_LC p) (show isq 1 (.lst []) = true from rfl) (by decide) (by decide) (by simp))))) (q_app rfl (e_var rfl) (by simp) ?_)
      exact c_app rfl (v_peek (j := 1) rfl scI (v_index (i := 0) (e_var rfl) (e_var rfl) (isq_LC p) (isqs_LC [p]) (by decide) (by decide) rfl (by intro m hm; omega))) (by simp) ⟨.im (dLC p), .inr (.inl ⟨rfl, rfl⟩)⟩
    · simp only [List.cons.injEq] at er1
      obtain ⟨rfl, rfl⟩ := er1
      refine ⟨_, tg_name, ?_⟩
      have hb : false = true ↔ ∃ y ∈ [dLC p], y = dLC q := by
        simp only [Bool.false_eq_true, List.mem_singleton, exists_eq_left, false_iff]
        exact fun e => hp (dLC_inj e)
      refine q_yes (t_peek (j := 1) rfl (t_testV (v_op (e_var rfl) (e_var rfl) (o_notInD (b := false) (k := 1) (l := 2) (isq_LC q) (isqs_LC [p]) (by decide) (by decide) hb)))) (q_app rfl (e_var rfl) (by simp) ?_)
      refine c_app rfl (v_peek (j := 1) rfl scI (v_index (i := 1) (e_var rfl) (e_var rfl) (isq_LC q) (isqs_LC [p, q]) (by decide) (by decide) rfl (fun m hm e => ?_))) (by simp) ⟨.im (dLC q), .inr (.inr ⟨rfl, rfl⟩)⟩
      have e0 : m = 0 := by omega
      subst e0
      exact hp (dLC_inj (Option.some.inj e))
    · cases er1
  · rintro S1 ⟨z, ⟨er1, _⟩ | ⟨er1, _⟩ | ⟨_, rfl⟩⟩
    · cases er1
    · cases er1
    · exact c_retL rfl rfl
theorem ok_groups_of {P : Program} {w : World} {K : PySem.W.Frag} {mg : Str → Option Value} {base : Heap} {C aI f : Addr} {fd : FuncData} (X : Tx K mg C aI) (F : Fun K "groups_of" "groups_of" s_groups_of f fd) (hm : mg "groups_of" = some (.ref f))  :
    Df P w K mg base 1 "groups_of" ["ends"] (sp_groups_of K C) :=
  df_mk hm F.kp (F.binds fun _ _ _ _ _ _ us hl => match us, hl with | [_], _ => rfl) (F.ok sc_groups_of spG_len fun cdv A outer s H vs Q E hr h => ⟨t_groups_of K C, pss_cons (ps_set (i := 1) sc_groups_of.nd rfl (by first | exact Or.inl rfl | exact Or.inr rfl) (pe_lst (pa_nil))) (pss_cons (ps_set (i := 2) sc_groups_of.nd rfl (by first | exact Or.inl rfl | exact Or.inr rfl) (pe_lst (pa_nil))) (pss_cons (ps_for PassesOwn.never rfl (pi_list (pv 0)) (pg_name (i := 3) sc_groups_of.nd rfl (by first | exact Or.inl rfl | exact Or.inr rfl)) (pss_cons (ps_if (pt_cmpR (op_notInD (hu65 hr)) (pv 3) (pv 1) (by rfl)) (pss_one (ps_expr (pe_bm PySem.F.plainAttrs_list PySem.F.slot_list_append PySem.F.type_list_append mt_append (pv 1) (pa_cons (pv 3) (pa_nil))))) (pss_nil)) (pss_one (ps_expr (pe_bm PySem.F.plainAttrs_list PySem.F.slot_list_append PySem.F.type_list_append mt_append (pv 2) (pa_cons (pe_bm PySem.F.plainAttrs_list PySem.F.slot_list_index PySem.F.type_list_index (mt_indexD (hu65 hr)) (pv 1) (pa_cons (pv 3) (pa_nil))) (pa_nil))))))) (pss_one (ps_ret (pv 2))))), run_of (E := E) (c_groups_of K C) h⟩)
structure GTup where
  x : Ps
  W : List (Int × Int)
abbrev aTup (g : GTup) : List Sl := [.im (dPs g.x), .im (.dic g.W)]
structure PTup (g : GTup) : Prop where
  ab : g.x.ab ≤ 40
  off : g.x.off ≤ 3200
  W : ∀ k n, getI g.W k = some n → 0 ≤ n ∧ n ≤ 300
def sp_tuplers_of (K : PySem.W.Frag) (C : Addr) : Sp := spG K C 2 aTup PTup (fun g d => d = .lst (dT (tups g.W g.x.off g.x.ab)))
abbrev s_tuplers_of : Stmt := topS 50
abbrev n_tuplers_of : List Str := ["position", "widths", "found", "level"]
theorem sc_tuplers_of : FnScope n_tuplers_of ["position", "widths"] (defScope s_tuplers_of) := ⟨rfl, rfl, rfl, by decide +kernel, rfl, by decide +kernel, by decide +kernel⟩
-- calls: ['tupler']; level 3; slots: 0:position 1:widths 2:found 3:level
def t_tuplers_of (K : PySem.W.Frag) (C : Addr) (aI : Addr) : TS := tSeq (tAsg (tLst (tNil)) (gName 2)) (tSeq (tFor (iRng2 (tCons (tFld K (tVar 0) "first_level") (tCons (tOp (rAddI) (tFld K (tVar 0) "first_level") (tFld K (tVar 0) "abstractions")) (tNil)))) (gName 3) (tIfS (tB (tDIn (tVar 3) (tVar 1))) (tDrop (tBM K "list" (rAppend) (tVar 2) (tCons (tCall (sp_tupler K C) [] E0 (tCons (tDGet (tVar 1) (tVar 3)) (tNil))) (tNil)))) (tDrop (tBM K "list" (rAppend) (tVar 2) (tCons (tC (.ref aI)) (tNil)))))) (tRet (tVar 2)))
theorem e_id {K : PySem.W.Frag} {C aI : Addr} {S : List Sl} (hI : ∀ B, SqT K B aI [.str "lam", .int 0]) : VlD K C (tC (.ref aI)) S (tmD idT) := e_cst fun B => .tup (hI B) (.cons (.str _) (.cons (.int 0) .nil))
theorem c_tuplers_of (K : PySem.W.Frag) (C aI : Addr) (hI : ∀ B, SqT K B aI [.str "lam", .int 0]) (cf : Cf K C) (g : GTup) (hp : PTup g) (_ : (aTup g).length = 2) :
    CmD K C (t_tuplers_of K C aI) (aTup g ++ List.replicate (n_tuplers_of.length - 2) .un) (fun _ => (.non : D) = .lst (dT (tups g.W g.x.off g.x.ab))) (fun d => d = .lst (dT (tups g.W g.x.off g.x.ab))) no no := by
  obtain ⟨x, W⟩ := g
  obtain ⟨h1, h2, h3⟩ := hp
  simp only at h1 h2 h3
  refine q_lst0 ?_
  have el : ((x.off : Int) + (x.ab : Int) - (x.off : Int)).toNat = x.ab := by omega
  have hlen : (tups W x.off x.ab).length = x.ab := by simp [tups]
  refine q_for (it_rng2 (m := (x.off : Int)) (n := (x.off : Int) + (x.ab : Int)) (v_fl cf (e_var rfl)) (v_op (v_fl cf (e_var rfl)) (v_ab cf (e_var rfl)) o_add) (by omega) (by omega) (by omega) (by omega)) (fun i S1 => ∃ z, S1 = [.im (dPs x), .im (.dic W), .ml (dT ((tups W x.off x.ab).take i)), z]) no ⟨.un, by simp⟩ ?_ ?_ (fun _ h => h.elim)
  · rintro i d S1 hi ⟨z, rfl⟩
    obtain ⟨hi1, rfl⟩ := rngD_get hi
    rw [el] at hi1
    have ge : (tups W x.off x.ab)[i]? = some (tupA W (x.off + i)) := by
      unfold tups
      rw [List.getElem?_map, List.getElem?_range hi1]
      rfl
    have tk : dT ((tups W x.off x.ab).take (i + 1)) = dT ((tups W x.off x.ab).take i) ++ [tmD (tupA W (x.off + i))] := by
      rw [List.take_add_one, ge, dT_app]; rfl
    have eI : (x.off : Int) + (i : Int) = ((x.off + i : Nat) : Int) := by omega
    refine ⟨_, tg_name, ?_⟩
    rw [eI]
    cases hg : getI W ((x.off + i : Nat) : Int) with
    | none =>
      refine c_no (ts_is (t_bV (v_din (e_var rfl) (e_var rfl))) (by rw [hg]; rfl)) (c_app rfl (e_id hI) (by rw [dT_len, List.length_take]; omega) ⟨.im (.int ((x.off + i : Nat) : Int)), ?_⟩)
      rw [tk]
      unfold tupA
      rw [hg]
      rfl
    | some w =>
      have hw := h3 _ _ hg
      refine c_yes (ts_is (t_bV (v_din (e_var rfl) (e_var rfl))) (by rw [hg]; rfl)) (c_app rfl (v_call w.toNat (a_is (a_consV (v_dget (e_var rfl) (e_var rfl) hg) a_nil) (by rw [Int.toNat_of_nonneg hw.1])) (by omega)) (by rw [dT_len, List.length_take]; omega) ⟨.im (.int ((x.off + i : Nat) : Int)), ?_⟩)
      rw [tk]
      unfold tupA
      rw [hg]
      rfl
  · rintro S1 ⟨z, rfl⟩
    refine c_retL (ds := dT (tups W x.off x.ab)) ?_ rfl
    rw [rngD_len, el, List.take_of_length_le (by omega)]
    rfl
theorem ok_tuplers_of {P : Program} {w : World} {K : PySem.W.Frag} {mg : Str → Option Value} {base : Heap} {C aI f : Addr} {fd : FuncData} (X : Tx K mg C aI) (F : Fun K "tuplers_of" "tuplers_of" s_tuplers_of f fd) (hm : mg "tuplers_of" = some (.ref f)) (cf : Cf K C) (D_tupler : Df P w K mg base 2 "tupler" ["count"] (sp_tupler K C)) :
    Df P w K mg base 3 "tuplers_of" ["position", "widths"] (sp_tuplers_of K C) :=
  df_mk hm F.kp (F.binds fun _ _ _ _ _ _ us hl => match us, hl with | [_, _], _ => rfl) (F.ok sc_tuplers_of spG_len fun cdv A outer s H vs Q E hr h => ⟨t_tuplers_of K C aI, pss_cons (ps_set (i := 2) sc_tuplers_of.nd rfl (by first | exact Or.inl rfl | exact Or.inr rfl) (pe_lst (pa_nil))) (pss_cons (ps_for PassesOwn.never rfl (pi_range2 (by rfl) X.range (pa_cons (pe_fld (pv 0) rfl) (pa_cons (pe_op op_add (pe_fld (pv 0) rfl) (pe_fld (pv 0) rfl)) (pa_nil)))) (pg_name (i := 3) sc_tuplers_of.nd rfl (by first | exact Or.inl rfl | exact Or.inr rfl)) (pss_one (ps_if (pt_cmp (pc_din (hu_of hr) (pv 3) (pv 1))) (pss_one (ps_expr (pe_bm PySem.F.plainAttrs_list PySem.F.slot_list_append PySem.F.type_list_append mt_append (pv 2) (pa_cons (pe_own D_tupler (hr.mono (by decide)) (by rfl) (pa_cons (pe_dget (hu_of hr) (pv 1) (pv 3) (fun _ _ => rfl)) (pa_nil))) (pa_nil))))) (pss_one (ps_expr (pe_bm PySem.F.plainAttrs_list PySem.F.slot_list_append PySem.F.type_list_append mt_append (pv 2) (pa_cons (pe_glob (by rfl) X.IDENTITY rfl) (pa_nil)))))))) (pss_one (ps_ret (pv 2)))), run_of (E := E) (c_tuplers_of K C aI X.ident cf) h⟩)
structure GCho where
  x : Ps
  W : List (Int × Int)
abbrev aCho (g : GCho) : List Sl := [.im (dLv g.x), .im (.dic g.W), .im (.lst [.int 0, .int 1])]
structure PCho (g : GCho) : Prop where
  p : ∃ n : Nat, getI g.W ((lvP g.x).1 : Int) = some (n : Int) ∧ (lvP g.x).2 ≤ n ∧ n ≤ 300
  q : ∃ n : Nat, getI g.W ((lvQ g.x).1 : Int) = some (n : Int) ∧ (lvQ g.x).2 ≤ n ∧ n ≤ 300
  ne : wOf g.W (lvP g.x).1 - (lvP g.x).2 ≠ wOf g.W (lvQ g.x).1 - (lvQ g.x).2
def sp_choices_at_end (K : PySem.W.Frag) (C : Addr) : Sp := spG K C 3 aCho PCho (fun g d => d = .lst (dT (choices g.W (lvP g.x) (lvQ g.x))))
abbrev s_choices_at_end : Stmt := topS 51
abbrev n_choices_at_end : List Str := ["ends", "widths", "groups", "ranks", "greatest", "many", "found", "rank", "at", "width", "level", "count"]
theorem sc_choices_at_end : FnScope n_choices_at_end ["ends", "widths", "groups"] (defScope s_choices_at_end) := ⟨rfl, rfl, rfl, by decide +kernel, rfl, by decide +kernel, by decide +kernel⟩
-- calls: ['abstracted_by', 'projection']; level 3; slots: 0:ends 1:widths 2:groups 3:ranks 4:greatest 5:many 6:found 7:rank 8:at 9:width 10:level 11:count
def t_choices_at_end (K : PySem.W.Frag) (C : Addr) (aI : Addr) : TS := tSeq (tAsg (tLc (iList K (tVar 0)) (gTup K 2 (gCons (gName 10) (gCons (gName 11) (gNil)))) (tYes) (tOp (rSubI) (tDGet (tVar 1) (tVar 10)) (tVar 11)) [10, 11]) (gName 3)) (tSeq (tAsg (tCB (rMax K) (tCons (tVar 3) (tNil))) (gName 4)) (tSeq (tAsg (tOp (rAddI) (tCB (rMax K) (tCons (tVar 2) (tNil))) (tC (.int 1))) (gName 5)) (tSeq (tAsg (tLst (tNil)) (gName 6)) (tSeq (tFor (iRng1 (tCons (tOp (rAddI) (tVar 4) (tC (.int 1))) (tNil))) (gName 7) (tIfS (tTest (tOp (rIn K false) (tVar 7) (tVar 3))) (tSeq (tAsg (tBM K "list" (rIndexD K) (tVar 3) (tCons (tVar 7) (tNil))) (gName 8)) (tSeq (tAsg (tDGet (tVar 1) (tOp (rIx K) (tOp (rIx K) (tVar 0) (tVar 8)) (tC (.int 0)))) (gName 9)) (tDrop (tBM K "list" (rAppend) (tVar 6) (tCons (tCall (sp_abstracted_by K C) [] E0 (tCons (tOp (rSubI) (tOp (rAddI) (tVar 9) (tVar 4)) (tVar 7)) (tCons (tCall (sp_projection K C) [] E0 (tCons (tOp (rIx K) (tVar 2) (tVar 8)) (tCons (tVar 5) (tNil)))) (tNil)))) (tNil)))))) (tDrop (tBM K "list" (rAppend) (tVar 6) (tCons (tC (.ref aI)) (tNil)))))) (tRet (tVar 6))))))
theorem size_proj (i n : Nat) : size (proj i n) = n + 1 := by unfold proj; rw [size_lams]; rfl
theorem isqs_I : ∀ ns : List Int, isqs 0 (ns.map D.int) = true
  | [] => rfl
  | n :: ns => by
    have := isqs_I ns
    simp only [List.map_cons, isqs, this]
    rfl
theorem c_choices_at_end (K : PySem.W.Frag) (C aI : Addr) (hI : ∀ B, SqT K B aI [.str "lam", .int 0]) (g : GCho) (hp : PCho g) (_ : (aCho g).length = 3) :
    CmD K C (t_choices_at_end K C aI) (aCho g ++ List.replicate (n_choices_at_end.length - 3) .un) (fun _ => (.non : D) = .lst (dT (choices g.W (lvP g.x) (lvQ g.x)))) (fun d => d = .lst (dT (choices g.W (lvP g.x) (lvQ g.x)))) no no := by
  obtain ⟨x, W⟩ := g
  obtain ⟨⟨n1, g1, l1, b1⟩, ⟨n2, g2, l2, b2⟩, hne⟩ := hp
  simp only at g1 l1 g2 l2 hne
  show CmD K C (t_choices_at_end K C aI) [.im (.lst [dLC (lvP x), dLC (lvQ x)]), .im (.dic W), .im (.lst [.int 0, .int 1]), .un, .un, .un, .un, .un, .un, .un, .un, .un] _ _ _ _
  show CmD K C _ _ (fun _ => (.non : D) = .lst (dT (choices W (lvP x) (lvQ x)))) (fun d => d = .lst (dT (choices W (lvP x) (lvQ x)))) _ _
  generalize lvP x = p at *
  generalize lvQ x = q at *
  have w1 : wOf W p.1 = n1 := by simp [wOf, g1]
  have w2 : wOf W q.1 = n2 := by simp [wOf, g2]
  rw [w1, w2] at hne
  have hg : greatest W p q = max (n1 - p.2) (n2 - q.2) := by simp [greatest, w1, w2]
  generalize eg : greatest W p q = gr at *
  have ech : choices W p q = (List.range (gr + 1)).map (choice W p q gr) := by simp only [choices, eg]
  have hclen : (choices W p q).length = gr + 1 := by rw [ech]; simp
  refine q_set (v_lcG2 (as := [p, q]) (g1 := fun p : LC => .int (p.1 : Int)) (g2 := fun p : LC => .int (p.2 : Int)) (f := fun p : LC => .int ((wOf W p.1 - p.2 : Nat) : Int)) (it_list (e_var rfl)) rfl rfl (by decide) (fun a ha => ?_) (by simp)) ?_
  · rcases List.mem_cons.mp ha with rfl | ha
    · refine v_is (v_op (v_dget (e_var rfl) (e_var rfl) g1) (e_var rfl) o_sub) ?_
      rw [w1, show (n1 : Int) - (a.2 : Int) = ((n1 - a.2 : Nat) : Int) by omega]
    · rcases List.mem_cons.mp ha with rfl | ha
      · refine v_is (v_op (v_dget (e_var rfl) (e_var rfl) g2) (e_var rfl) o_sub) ?_
        rw [w2, show (n2 : Int) - (a.2 : Int) = ((n2 - a.2 : Nat) : Int) by omega]
      · cases ha
  have erk : ([p, q].map fun p : LC => D.int ((wOf W p.1 - p.2 : Nat) : Int)) = ([((n1 - p.2 : Nat) : Int), ((n2 - q.2 : Nat) : Int)]).map D.int := by simp [w1, w2]
  rw [erk]
  refine q_set (v_cb (ds := [.lst (([((n1 - p.2 : Nat) : Int), ((n2 - q.2 : Nat) : Int)]).map D.int)]) (a_consV (e_var rfl) a_nil) (k_max (m := (gr : Int)) ?_ ?_)) ?_
  · simp only [List.mem_cons, List.not_mem_nil, or_false]; omega
  · intro y hy
    simp only [List.mem_cons, List.not_mem_nil, or_false] at hy
    omega
  refine q_set (d := .int 2) (v_op (v_cb (ds := [.lst (([0, 1] : List Int).map D.int)]) (a_consV (e_var rfl) a_nil) (k_max (m := 1) (by simp) (by simp))) e_int o_add) ?_
  refine q_lst0 ?_
  have eR : ((gr : Int) + 1).toNat = gr + 1 := by omega
  refine q_for (it_rng1 (n := (gr : Int) + 1) (v_op (e_var rfl) e_int o_add) (by omega) (by omega)) (fun i S1 => ∃ (z7 z8 z9 : Sl), z8.own = false ∧ z9.own = false ∧ S1 = [.im (.lst [dLC p, dLC q]), .im (.dic W), .im (.lst [.int 0, .int 1]), .im (.lst (([((n1 - p.2 : Nat) : Int), ((n2 - q.2 : Nat) : Int)]).map D.int)), .im (.int (gr : Int)), .im (.int 2), .ml (dT ((choices W p q).take i)), z7, z8, z9, .un, .un]) no
    ⟨.un, .un, .un, rfl, rfl, by simp⟩ ?_ ?_ (fun _ h => h.elim)
  · rintro i d S1 hi ⟨z7, z8, z9, h8, h9, rfl⟩
    obtain ⟨hi1, rfl⟩ := rng_at hi
    rw [eR] at hi1
    have ge : (choices W p q)[i]? = some (choice W p q gr i) := by
      rw [ech, List.getElem?_map, List.getElem?_range hi1]
      rfl
    have tk : dT ((choices W p q).take (i + 1)) = dT ((choices W p q).take i) ++ [tmD (choice W p q gr i)] := by
      rw [List.take_add_one, ge, dT_app]; rfl
    have hacc : (dT ((choices W p q).take i)).length < 16777216 := by rw [dT_len, List.length_take]; omega
    have main : ∀ (j n : Nat) (pp : LC), [dLC p, dLC q][j]? = some (dLC pp) → [D.int 0, D.int 1][j]? = some (.int (j : Int)) → j < 2 → getI W (pp.1 : Int) = some (n : Int) → n ≤ 300 → (([((n1 - p.2 : Nat) : Int), ((n2 - q.2 : Nat) : Int)]).map D.int)[j]? = some (.int (i : Int)) → (∀ m, m < j → (([((n1 - p.2 : Nat) : Int), ((n2 - q.2 : Nat) : Int)]).map D.int)[m]? ≠ some (.int (i : Int))) → choice W p q gr i = lams (n + gr - i) (proj j 2) → i ≤ n + gr →
        CmD K C (tIfS (tTest (tOp (rIn K false) (tVar 7) (tVar 3))) (tSeq (tAsg (tBM K "list" (rIndexD K) (tVar 3) (tCons (tVar 7) (tNil))) (gName 8)) (tSeq (tAsg (tDGet (tVar 1) (tOp (rIx K) (tOp (rIx K) (tVar 0) (tVar 8)) (tC (.int 0)))) (gName 9)) (tDrop (tBM K "list" (rAppend) (tVar 6) (tCons (tCall (sp_abstracted_by K C) [] E0 (tCons (tOp (rSubI) (tOp (rAddI) (tVar 9) (tVar 4)) (tVar 7)) (tCons (tCall (sp_projection K C) [] E0 (tCons (tOp (rIx K) (tVar 2) (tVar 8)) (tCons (tVar 5) (tNil)))) (tNil)))) (tNil)))))) (tDrop (tBM K "list" (rAppend) (tVar 6) (tCons (tC (.ref aI)) (tNil)))))
          [.im (.lst [dLC p, dLC q]), .im (.dic W), .im (.lst [.int 0, .int 1]), .im (.lst (([((n1 - p.2 : Nat) : Int), ((n2 - q.2 : Nat) : Int)]).map D.int)), .im (.int (gr : Int)), .im (.int 2), .ml (dT ((choices W p q).take i)), .im (.int (i : Int)), z8, z9, .un, .un]
          (fun S1 => ∃ (z7 z8 z9 : Sl), z8.own = false ∧ z9.own = false ∧ S1 = [.im (.lst [dLC p, dLC q]), .im (.dic W), .im (.lst [.int 0, .int 1]), .im (.lst (([((n1 - p.2 : Nat) : Int), ((n2 - q.2 : Nat) : Int)]).map D.int)), .im (.int (gr : Int)), .im (.int 2), .ml (dT ((choices W p q).take (i + 1))), z7, z8, z9, .un, .un])
          (fun d => d = .lst (dT (choices W p q))) no (fun S1 => ∃ (z7 z8 z9 : Sl), z8.own = false ∧ z9.own = false ∧ S1 = [.im (.lst [dLC p, dLC q]), .im (.dic W), .im (.lst [.int 0, .int 1]), .im (.lst (([((n1 - p.2 : Nat) : Int), ((n2 - q.2 : Nat) : Int)]).map D.int)), .im (.int (gr : Int)), .im (.int 2), .ml (dT ((choices W p q).take (i + 1))), z7, z8, z9, .un, .un]) := by
      intro j n pp hj hgj hj2 hgn hn3 hrk hno hch hle
      have hin : true = decide ((i : Int) ∈ [((n1 - p.2 : Nat) : Int), ((n2 - q.2 : Nat) : Int)]) := by
        rw [eq_comm, decide_eq_true_iff]
        rw [List.getElem?_map] at hrk
        cases e : [((n1 - p.2 : Nat) : Int), ((n2 - q.2 : Nat) : Int)][j]? with
        | none => rw [e] at hrk; cases hrk
        | some y =>
          rw [e] at hrk
          cases hrk
          exact List.mem_of_getElem? e
      refine c_yes (t_testV (v_op (e_var rfl) (e_var rfl) (o_inI hin))) ?_
      refine q_set (v_index (i := j) (e_var rfl) (e_var rfl) (k := 0) (l := 0) rfl (isqs_I _) (by decide) (by decide) hrk hno) ?_
      refine q_set (v_dget (e_var rfl) (v_op (v_op (e_var rfl) (e_var rfl) (o_ixL (d := dLC pp) (atI_pos hj))) e_int (o_ixT (d := .int (pp.1 : Int)) (atI_pos (n := 0) rfl))) hgn) ?_
      refine c_app (d := tmD (choice W p q gr i)) rfl ?_ hacc ⟨.im (.int (i : Int)), .im (.int (j : Int)), .im (.int (n : Int)), rfl, rfl, ?_⟩
      · rw [hch]
        refine v_call (⟨n + gr - i, proj j 2⟩ : GAbs) (a_is (a_consV (v_op (v_op (e_var rfl) (e_var rfl) o_add) (e_var rfl) o_sub) (a_consV (v_call (⟨j, 2⟩ : GProj) (a_is (a_consV (v_op (e_var rfl) (e_var rfl) (o_ixL (d := .int (j : Int)) (atI_pos hgj))) (a_consV (e_var rfl) a_nil)) rfl) ⟨hj2, by show 2 ≤ 1000; decide⟩) a_nil)) ?_) ⟨by show n + gr - i ≤ 1000; omega, by rw [size_proj]; decide⟩
        simp only [aAbs]
        rw [show (n : Int) + (gr : Int) - (i : Int) = ((n + gr - i : Nat) : Int) by omega]
      · rw [tk]; rfl
    refine ⟨_, tg_name, ?_⟩
    by_cases e1 : i = n1 - p.2
    · refine main 0 n1 p rfl rfl (by decide) g1 b1 (by rw [e1]; rfl) (by intro m hm; omega) ?_ (by omega)
      simp only [choice, w1, w2]
      rw [if_pos e1]
    · by_cases e2 : i = n2 - q.2
      · refine main 1 n2 q rfl rfl (by decide) g2 b2 (by rw [e2]; rfl) ?_ ?_ (by omega)
        · intro m hm e
          have e0 : m = 0 := by omega
          subst e0
          have e3 := Option.some.inj e
          simp only [D.int.injEq] at e3
          omega
        · simp only [choice, w1, w2]
          rw [if_neg e1, if_pos e2]
      · have hin : false = decide ((i : Int) ∈ [((n1 - p.2 : Nat) : Int), ((n2 - q.2 : Nat) : Int)]) := by
          rw [eq_comm, decide_eq_false_iff_not]
          simp only [List.mem_cons, List.not_mem_nil, or_false]
          omega
        refine c_no (t_testV (v_op (e_var rfl) (e_var rfl) (o_inI hin))) (c_app rfl (e_id hI) hacc ⟨.im (.int (i : Int)), z8, z9, h8, h9, ?_⟩)
        rw [tk]
        have : choice W p q gr i = idT := by
          simp only [choice, w1, w2]
          rw [if_neg e1, if_neg e2]
        rw [this]
        rfl
  · rintro S1 ⟨z7, z8, z9, h8, h9, rfl⟩
    refine c_retL (ds := dT (choices W p q)) ?_ rfl
    rw [rngD_len, eR, List.take_of_length_le (by omega)]
    rfl
theorem ok_choices_at_end {P : Program} {w : World} {K : PySem.W.Frag} {mg : Str → Option Value} {base : Heap} {C aI f : Addr} {fd : FuncData} (X : Tx K mg C aI) (F : Fun K "choices_at_end" "choices_at_end" s_choices_at_end f fd) (hm : mg "choices_at_end" = some (.ref f)) (D_abstracted_by : Df P w K mg base 1 "abstracted_by" ["count", "term"] (sp_abstracted_by K C)) (D_projection : Df P w K mg base 2 "projection" ["index", "count"] (sp_projection K C)) :
    Df P w K mg base 3 "choices_at_end" ["ends", "widths", "groups"] (sp_choices_at_end K C) :=
  df_mk hm F.kp (F.binds fun _ _ _ _ _ _ us hl => match us, hl with | [_, _, _], _ => rfl) (F.ok sc_choices_at_end spG_len fun cdv A outer s H vs Q E hr h => ⟨t_choices_at_end K C aI, pss_cons (ps_setLc (i := 3) (own := [("level", 10), ("count", 11)]) (g := gTup K 2 (gCons (gName 10) (gCons (gName 11) (gNil)))) rfl sc_choices_at_end.nd rfl rfl (sw_true rfl rfl rfl (by decide +kernel)) (pi_list (pv 0)) (blkOk_by (own := [("level", 10), ("count", 11)]) (N := n_choices_at_end) (sc := defScope s_choices_at_end) (by decide +kernel)) (fun _ _ _ _ _ => pg_tup rfl (pgs_cons (pg_name (i := 10) sc_choices_at_end.nd rfl (by first | exact Or.inl rfl | exact Or.inr rfl)) (pgs_cons (pg_name (i := 11) sc_choices_at_end.nd rfl (by first | exact Or.inl rfl | exact Or.inr rfl)) (pgs_nil)))) (fun _ _ _ _ _ => pts_nil) (fun _ _ _ _ _ => pe_op op_sub (pe_dget (hu_of hr) (pv 1) (pv 10) (fun _ _ => rfl)) (pv 11))) (pss_cons (ps_set (i := 4) sc_choices_at_end.nd rfl (by first | exact Or.inl rfl | exact Or.inr rfl) (pe_callB (cr_max rfl) (by rfl) X.max (by decide +kernel) (pa_cons (pv 3) (pa_nil)))) (pss_cons (ps_set (i := 5) sc_choices_at_end.nd rfl (by first | exact Or.inl rfl | exact Or.inr rfl) (pe_op op_add (pe_callB (cr_max rfl) (by rfl) X.max (by decide +kernel) (pa_cons (pv 2) (pa_nil))) (pe_int))) (pss_cons (ps_set (i := 6) sc_choices_at_end.nd rfl (by first | exact Or.inl rfl | exact Or.inr rfl) (pe_lst (pa_nil))) (pss_cons (ps_for PassesOwn.never rfl (pi_range1 (by rfl) X.range (pa_cons (pe_op op_add (pv 4) (pe_int)) (pa_nil))) (pg_name (i := 7) sc_choices_at_end.nd rfl (by first | exact Or.inl rfl | exact Or.inr rfl)) (pss_one (ps_if (pt_cmpR (op_in_seq) (pv 7) (pv 3) (by rfl)) (pss_cons (ps_set (i := 8) sc_choices_at_end.nd rfl (by first | exact Or.inl rfl | exact Or.inr rfl) (pe_bm PySem.F.plainAttrs_list PySem.F.slot_list_index PySem.F.type_list_index (mt_indexD (hu65 hr)) (pv 3) (pa_cons (pv 7) (pa_nil)))) (pss_cons (ps_set (i := 9) sc_choices_at_end.nd rfl (by first | exact Or.inl rfl | exact Or.inr rfl) (pe_dget (hu_of hr) (pv 1) (pe_ix ix_seq (pe_ix ix_seq (pv 0) (pv 8) (fun _ _ => rfl)) (pe_int) (fun _ _ => rfl)) (fun _ _ => rfl))) (pss_one (ps_expr (pe_bm PySem.F.plainAttrs_list PySem.F.slot_list_append PySem.F.type_list_append mt_append (pv 6) (pa_cons (pe_own D_abstracted_by (hr.mono (by decide)) (by rfl) (pa_cons (pe_op op_sub (pe_op op_add (pv 9) (pv 4)) (pv 7)) (pa_cons (pe_own D_projection (hr.mono (by decide)) (by rfl) (pa_cons (pe_ix ix_seq (pv 2) (pv 8) (fun _ _ => rfl)) (pa_cons (pv 5) (pa_nil)))) (pa_nil)))) (pa_nil))))))) (pss_one (ps_expr (pe_bm PySem.F.plainAttrs_list PySem.F.slot_list_append PySem.F.type_list_append mt_append (pv 6) (pa_cons (pe_glob (by rfl) X.IDENTITY rfl) (pa_nil)))))))) (pss_one (ps_ret (pv 6))))))), run_of (E := E) (c_choices_at_end K C aI X.ident) h⟩)
end Wk
end
section
set_option Elab.async false
set_option autoImplicit false
set_option linter.all false
set_option maxRecDepth 100000
set_option maxHeartbeats 4000000
/-! Plain: what the widths are. -/
namespace Wk
open PySem L2 Dl Lam
theorem getI_cons (p : Int × Int) (r : List (Int × Int)) (j : Int) : getI (p :: r) j = if p.1 = j then some p.2 else getI r j := by
  unfold getI
  by_cases e : p.1 = j
  · simp [e]
  · simp [e]
theorem getI_none {r : List (Int × Int)} {j : Int} (h : j ∉ r.map (·.1)) : getI r j = none := by
  induction r with
  | nil => rfl
  | cons p r ih =>
    simp only [List.map_cons, List.mem_cons, not_or] at h
    rw [getI_cons, if_neg (fun e => h.1 e.symm), ih h.2]
theorem putI_keys (ns : List (Int × Int)) (k v : Int) : (putI ns k v).map (·.1) = if k ∈ ns.map (·.1) then ns.map (·.1) else ns.map (·.1) ++ [k] := by
  have h : (ns.any fun p => decide (p.1 = k)) = true ↔ k ∈ ns.map (·.1) := by
    simp only [List.any_eq_true, decide_eq_true_eq, List.mem_map]
  unfold putI
  by_cases e : (ns.any fun p => decide (p.1 = k)) = true
  · rw [if_pos e, if_pos (h.mp e), List.map_map]
    apply List.map_congr_left
    intro p _
    simp only [Function.comp]
    split <;> rfl
  · rw [if_neg e, if_neg (fun z => e (h.mpr z))]
    simp
theorem putI_nd {ns : List (Int × Int)} (h : (ns.map (·.1)).Nodup) (k v : Int) : ((putI ns k v).map (·.1)).Nodup := by
  rw [putI_keys]
  split
  · exact h
  · rename_i e
    rw [List.nodup_append]
    refine ⟨h, by simp, fun a ha b hb e2 => ?_⟩
    simp only [List.mem_singleton] at hb
    subst hb
    exact e (e2 ▸ ha)
theorem needL_nd (ls : List LC) : ((needL ls).map (·.1)).Nodup := by
  have key : ∀ (ls : List LC) (ns : List (Int × Int)), (ns.map (·.1)).Nodup → ((ls.foldl putMax ns).map (·.1)).Nodup := fun ls => by
    induction ls with
    | nil => exact fun ns h => h
    | cons p ls ih => exact fun ns h => ih _ (putI_nd h _ _)
  exact key ls [] List.nodup_nil
theorem getI_mrg : ∀ (ms ns : List (Int × Int)) (j : Int), (ms.map (·.1)).Nodup → getI (mrgI ns ms) j = match getI ms j with
    | some v => some v
    | none => getI ns j
  | [], ns, j, _ => rfl
  | p :: ms, ns, j, h => by
    rw [List.map_cons, List.nodup_cons] at h
    show getI (mrgI (putI ns p.1 p.2) ms) j = _
    rw [getI_mrg ms _ j h.2, getI_cons, getI_put]
    by_cases e : p.1 = j
    · subst e
      rw [getI_none h.1, if_pos rfl, if_pos rfl]
    · rw [if_neg e, if_neg (fun z => e z.symm)]
structure WOk (xs : List Ps) (W : List (Int × Int)) : Prop where
  bd : ∀ k n, getI W k = some n → 0 ≤ n ∧ n ≤ 81
  le : ∀ x ∈ xs, ∀ p ∈ lvl x, ∃ n : Nat, getI W (p.1 : Int) = some (n : Int) ∧ p.2 ≤ n
  ne : lvP (lastPs xs) ≠ lvQ (lastPs xs) → wOf W (lvP (lastPs xs)).1 - (lvP (lastPs xs)).2 ≠ wOf W (lvQ (lastPs xs)).1 - (lvQ (lastPs xs)).2
  top : ∀ l, wOf W l ≤ 81
  cap : ∀ b : Nat, (∀ p ∈ xs.flatMap lvl, p.2 ≤ b) → ∀ l, wOf W l ≤ b + 1
theorem widths_ok {xs : List Ps} (hp : PPs xs) (hne : xs ≠ []) : WOk xs (widths xs) := by
  have hcov := needs_cov hp
  have hmem := last_mem hne
  generalize ex : lastPs xs = x at *
  have g1 : ∃ n : Nat, getI (needs xs) ((lvP x).1 : Int) = some (n : Int) ∧ (lvP x).2 ≤ n := hcov.le _ (List.mem_flatMap.mpr ⟨x, hmem, by simp [lvl]⟩)
  have g2 : ∃ n : Nat, getI (needs xs) ((lvQ x).1 : Int) = some (n : Int) ∧ (lvQ x).2 ≤ n := hcov.le _ (List.mem_flatMap.mpr ⟨x, hmem, by simp [lvl]⟩)
  obtain ⟨n1, g1, l1⟩ := g1
  obtain ⟨n2, g2, l2⟩ := g2
  have est : settled (needs xs) (lvP x) (lvQ x) = if (lvP x).1 = (lvQ x).1 then [(((lvP x).1 : Int), (n1 : Int))] else [(((lvP x).1 : Int), (n1 : Int)), (((lvQ x).1 : Int), wid2 (n2 : Int) ((lvQ x).2 : Int) (n1 : Int) ((lvP x).2 : Int))] := by
    simp only [settled, g1, g2, Option.getD_some]
  have base : ∀ j, getI (mrgI [] (needs xs)) j = getI (needs xs) j := fun j => by
    rw [getI_mrg _ _ _ (needL_nd _)]
    cases getI (needs xs) j <;> rfl
  -- the widths, told by level
  have all : ∀ j, getI (widths xs) j = if j = ((lvQ x).1 : Int) ∧ (lvP x).1 ≠ (lvQ x).1 then some (wid2 (n2 : Int) ((lvQ x).2 : Int) (n1 : Int) ((lvP x).2 : Int)) else getI (needs xs) j := fun j => by
    unfold widths
    rw [ex, est]
    by_cases hl : (lvP x).1 = (lvQ x).1
    · have hR : ¬ (j = ((lvQ x).1 : Int) ∧ (lvP x).1 ≠ (lvQ x).1) := fun z => z.2 hl
      rw [if_neg hR, if_pos hl, getI_mrg _ _ _ (by simp), getI_cons, base]
      by_cases e : ((lvP x).1 : Int) = j
      · rw [if_pos e, ← e, g1]
      · rw [if_neg e]; rfl
    · have hl2 : ¬ ((lvP x).1 : Int) = ((lvQ x).1 : Int) := by omega
      rw [if_neg hl, getI_mrg _ _ _ (by simp [hl2]), getI_cons, getI_cons, base]
      by_cases e : ((lvP x).1 : Int) = j
      · have hR : ¬ (j = ((lvQ x).1 : Int) ∧ (lvP x).1 ≠ (lvQ x).1) := fun z => by omega
        rw [if_neg hR, if_pos e, ← e, g1]
      · rw [if_neg e]
        by_cases e2 : ((lvQ x).1 : Int) = j
        · rw [if_pos e2, if_pos ⟨e2.symm, hl⟩]
        · rw [if_neg e2, if_neg (fun z => e2 z.1.symm)]; rfl
  have w2 : (n2 : Int) ≤ wid2 (n2 : Int) ((lvQ x).2 : Int) (n1 : Int) ((lvP x).2 : Int) ∧ wid2 (n2 : Int) ((lvQ x).2 : Int) (n1 : Int) ((lvP x).2 : Int) ≤ n2 + 1 := by
    unfold wid2
    split <;> omega
  have b2 := (hcov.bd _ _ g2).2
  have bd : ∀ k n, getI (widths xs) k = some n → 0 ≤ n ∧ n ≤ 81 := fun k n h => by
    rw [all] at h
    split at h
    · cases h; omega
    · have := hcov.bd _ _ h; omega
  refine ⟨bd, fun y hy p hpy => ?_, fun hpq => ?_, fun l => ?_, fun b hb l => ?_⟩
  · obtain ⟨n, h1, h2⟩ := hcov.le p (List.mem_flatMap.mpr ⟨y, hy, hpy⟩)
    rw [all]
    split
    · rename_i hc
      rw [hc.1, g2] at h1
      have : n = n2 := by have := Option.some.inj h1; omega
      subst this
      exact ⟨(wid2 (n : Int) ((lvQ x).2 : Int) (n1 : Int) ((lvP x).2 : Int)).toNat, by congr 1; omega, by omega⟩
    · exact ⟨n, h1, h2⟩
  · rw [ex] at hpq ⊢
    have e1 : wOf (widths xs) (lvP x).1 = n1 := by
      unfold wOf
      rw [all, if_neg (fun z => z.2 (by omega)), g1]
      simp
    by_cases hl : (lvP x).1 = (lvQ x).1
    · have e2 : n2 = n1 := by
        rw [← hl, g1] at g2
        have := Option.some.inj g2; omega
      rw [← hl, e1]
      have : (lvP x).2 ≠ (lvQ x).2 := fun z => hpq (Prod.ext hl z)
      omega
    · have e2 : (wOf (widths xs) (lvQ x).1 : Int) = wid2 (n2 : Int) ((lvQ x).2 : Int) (n1 : Int) ((lvP x).2 : Int) := by
        unfold wOf
        rw [all, if_pos ⟨rfl, hl⟩]
        simp only [Option.getD_some]
        omega
      have e3 : wid2 (n2 : Int) ((lvQ x).2 : Int) (n1 : Int) ((lvP x).2 : Int) - ((lvQ x).2 : Int) ≠ (n1 : Int) - ((lvP x).2 : Int) := by
        unfold wid2
        split <;> omega
      rw [e1]
      omega
  · unfold wOf
    cases h : getI (widths xs) (l : Int) with
    | none => simp
    | some n => have := bd _ _ h; simp only [Option.getD_some]; omega
  · have hc2 : Cov b (xs.flatMap lvl) (needs xs) := needL_cov b _ hb
    unfold wOf
    cases h : getI (widths xs) (l : Int) with
    | none => simp
    | some n =>
      simp only [Option.getD_some]
      rw [all] at h
      split at h
      · cases h
        have := (hc2.bd _ _ g2).2
        omega
      · have := hc2.bd _ _ h; omega
end Wk
end
section
set_option Elab.async false
set_option autoImplicit false
set_option linter.all false
set_option maxRecDepth 100000
set_option maxHeartbeats 4000000
/-! separate, tell, _law_tell. -/
namespace Wk
open PySem L2 Dl Dx Lam
def okA (as : List Tm) : Prop := as.length ≤ 400 ∧ ∀ a ∈ as, size a ≤ 1000
abbrev dSep (g : G2) : D := .tup [.lst (dT (args g.t g.u)), .lst [.int 0, .int 1]]
def sp_separate (K : PySem.W.Frag) (C cT : Addr) : Sp := spX K C 1 a2 PCrowd (fun g d => d = dSep g ∧ okA (args g.t g.u)) (fun g => ¬ okA (args g.t g.u)) cT
abbrev s_separate : Stmt := topS 52
abbrev n_separate : List Str := ["crowd", "positions", "widths", "groups", "found", "position", "level", "count", "argument"]
theorem sc_separate : FnScope n_separate ["crowd"] (defScope s_separate) := ⟨rfl, rfl, rfl, by decide +kernel, rfl, by decide +kernel, by decide +kernel⟩
-- calls: ['Position.levels', 'choices_at_end', 'groups_of', 'positions_of', 'projection', 'tuplers_of', 'widths_of']; level 10; slots: 0:crowd 1:positions 2:widths 3:groups 4:found 5:position 6:level 7:count 8:argument
def t_separate (K : PySem.W.Frag) (C : Addr) (aI : Addr) (rz : TS) : TS := tSeq (tAsg (tCall (sp_positions_of K C) [] E0 (tCons (tVar 0) (tNil))) (gName 1)) (tSeq (tAsg (tCall (sp_widths_of K C) [] E0 (tCons (tVar 1) (tNil))) (gName 2)) (tSeq (tAsg (tCall (sp_groups_of K C) [] E0 (tCons (tMeth C "levels" (sp_Position_levels K C) [] E0 (tOp (rIx K) (tVar 1) (tUn (rU fun i => .int (-i)) (tC (.int 1)))) tNil) (tNil))) (gName 3)) (tSeq (tAsg (tLst (tNil)) (gName 4)) (tSeq (tFor (iList K (tVar 1)) (gName 5) (tSeq (tDrop (tBM K "list" (rExtend) (tVar 4) (tCons (tCall (sp_tuplers_of K C) [] E0 (tCons (tVar 5) (tCons (tVar 2) (tNil)))) (tNil)))) (tIfS (tB (tNotN (tFld K (tVar 5) "turn"))) (tSeq (tAsg (tOp (rIx K) (tMeth C "levels" (sp_Position_levels K C) [] E0 (tVar 5) tNil) (tC (.int 0))) (gTup K 2 (gCons (gName 6) (gCons (gName 7) (gNil))))) (tSeq (tDrop (tBM K "list" (rExtend) (tVar 4) (tCons (tOp (rRep) (tLst (tCons (tC (.ref aI)) (tNil))) (tOp (rSubI) (tDGet (tVar 2) (tVar 6)) (tVar 7))) (tNil)))) (tDrop (tBM K "list" (rAppend) (tVar 4) (tCons (tCall (sp_projection K C) [] E0 (tCons (tFld K (tVar 5) "turn") (tCons (tDGet (tVar 2) (tVar 6)) (tNil)))) (tNil)))))) (tNext)))) (tSeq (tDrop (tBM K "list" (rExtend) (tVar 4) (tCons (tCall (sp_choices_at_end K C) [] E0 (tCons (tMeth C "levels" (sp_Position_levels K C) [] E0 (tOp (rIx K) (tVar 1) (tUn (rU fun i => .int (-i)) (tC (.int 1)))) tNil) (tCons (tVar 2) (tCons (tVar 3) (tNil))))) (tNil)))) (tSeq (tIfS (tOr (tTest (tOp (rGtI) (tCB (rLenS K) (tCons (tVar 4) (tNil))) (tC (.int 400)))) (tTest (tOp (rGtI) (tCB (rMax K) (tCons (tLc (iList K (tVar 4)) (gName 8) (tYes) (tCB (rLenS K) (tCons (tVar 8) (tNil))) [8]) (tNil))) (tC (.int 1000))))) (rz) (tNext)) (tRet (tTup (tCons (tVar 4) (tCons (tVar 3) (tNil)))))))))))
theorem pth_ok {t u : Tm} (h : Two 40 0 t u) : PPs (pth t u) := by
  have h1 := h.st
  have h2 := h.su
  obtain ⟨a, b⟩ := path_ok h (Nat.le_refl _) (by omega)
  have b' : (pth t u).length ≤ size t + size u + 1 := b
  exact ⟨a, by omega⟩
theorem pth_end {t u : Tm} (h : Two 40 0 t u) : pth t u ≠ [] ∧ lvP (lastPs (pth t u)) ≠ lvQ (lastPs (pth t u)) ∧ (lastPs (pth t u)).turn = none ∧ ∀ r x, pth t u = r ++ [x] → (x.turn = none ∧ ∀ y ∈ r, y.turn ≠ none) := by
  obtain ⟨r, x, e, h1, h2, h3⟩ := path_end h (Nat.le_refl _)
  have e : pth t u = r ++ [x] := e
  have el : lastPs (pth t u) = x := by rw [lastPs, e]; simp
  have hx := (pth_ok h).ok x (by rw [e]; simp)
  refine ⟨by rw [e]; simp, fun z => ?_, by rw [el]; exact h1, fun r' x' e' => ?_⟩
  · rw [el] at z
    simp only [lvP, lvQ, Prod.mk.injEq] at z
    have h4 := hx.p
    have h5 := hx.q
    have : x.p.1 = x.q.1 := by omega
    simp only [alike, this, z.2, beq_self_eq_true, Bool.and_self] at h2
    cases h2
  · rw [e] at e'
    obtain ⟨rfl, e2⟩ := List.append_inj' e' rfl
    cases e2
    exact ⟨h1, h3⟩
theorem argP_len {xs : List Ps} {W : List (Int × Int)} (hp : PPs xs) (hw : WOk xs W) : ∀ x ∈ xs, (argP W x).length ≤ 200 := by
  intro x hx
  have h1 := (hp.ok x hx).ab
  have h2 := hw.top (lvP x).1
  unfold argP
  rw [List.length_append]
  have h3 : (tups W x.off x.ab).length = x.ab := by simp [tups]
  rw [h3]
  cases x.turn with
  | none => simp; omega
  | some k => simp; omega
theorem flat_len {W : List (Int × Int)} : ∀ {xs : List Ps}, (∀ x ∈ xs, (argP W x).length ≤ 200) → (xs.flatMap (argP W)).length ≤ 200 * xs.length
  | [], _ => by simp
  | x :: xs, h => by
    have h1 := h x List.mem_cons_self
    have h2 := flat_len (xs := xs) fun y hy => h y (List.mem_cons_of_mem _ hy)
    rw [List.flatMap_cons, List.length_append, List.length_cons]
    omega
theorem choices_len (W : List (Int × Int)) (p q : LC) : (choices W p q).length = greatest W p q + 1 := by simp [choices]
theorem greatest_le {W : List (Int × Int)} (h : ∀ l, wOf W l ≤ 81) (p q : LC) : greatest W p q ≤ 81 := by
  have := h p.1
  have := h q.1
  unfold greatest
  omega
theorem rep_flat {α : Type} (x : α) (n : Nat) : (List.replicate n [x]).flatten = List.replicate n x := flat_one x n
theorem dT_rep (t : Tm) (n : Nat) : dT (List.replicate n t) = List.replicate n (tmD t) := by simp [dT]
theorem cm_separate (K : PySem.W.Frag) (C aI : Addr) (hI : ∀ B, SqT K B aI [.str "lam", .int 0]) (cf : Cf K C) (g : G2) (hp : PCrowd g) :
    CmD K C (t_separate K C aI tBreak) [.im (.lst (dT [g.t, g.u])), .un, .un, .un, .un, .un, .un, .un, .un] no (fun d => d = dSep g ∧ okA (args g.t g.u)) (fun _ => ¬ okA (args g.t g.u)) no := by
  obtain ⟨t, u⟩ := g
  have hp' := hp
  obtain ⟨h⟩ := hp
  simp only at h
  show CmD K C _ _ _ (fun d => d = dSep ⟨t, u⟩ ∧ okA (args t u)) (fun _ => ¬ okA (args t u)) _
  have hP := pth_ok h
  obtain ⟨hne, hpq, htn, _⟩ := pth_end h
  have hW := widths_ok hP hne
  obtain ⟨r0, er0⟩ := last_of hne
  have hmem := last_mem hne
  have hlast := hP.ok _ hmem
  have hn100 := hP.n
  have ea : args t u = (pth t u).flatMap (argP (widths (pth t u))) ++ choices (widths (pth t u)) (lvP (lastPs (pth t u))) (lvQ (lastPs (pth t u))) := rfl
  rw [show dSep ⟨t, u⟩ = .tup [.lst (dT (args t u)), .lst [.int 0, .int 1]] from rfl]
  generalize args t u = AS at *
  refine q_setE (v_call (⟨t, u⟩ : G2) (a_consV (e_var rfl) a_nil) hp') ?_
  rintro d rfl
  simp only
  generalize pth t u = xs at *
  refine q_setE (v_call xs (a_consV (e_var rfl) a_nil) ⟨hP, hne⟩) ?_
  rintro d rfl
  generalize widths xs = W at *
  generalize exl : lastPs xs = x at *
  have at1 : atI (xs.map dPs) (-1) = some (dPs x) := by rw [er0, List.map_append]; exact atI_last
  refine q_setE (v_call x (a_consV (v_meth x (v_op (e_var rfl) (v_neg e_int) (o_ixL at1)) rfl hlast.hk) a_nil) hpq) ?_
  rintro d rfl
  refine q_lst0 ?_
  have hal := argP_len hP hW
  have hb : ∀ (done rest : List Ps), xs = done ++ rest → (done.flatMap (argP W)).length ≤ 200 * 100 := fun done rest e => by
    have h1 := flat_len (W := W) (xs := done) fun y hy => hal y (by rw [e]; exact List.mem_append_left _ hy)
    have h2 := congrArg List.length e
    rw [List.length_append] at h2
    omega
  refine q_forR (it_list (e_var (i := 1) rfl)) (fun r S1 => ∃ (done rest : List Ps) (z5 z6 z7 : Sl), xs = done ++ rest ∧ r = rest.map dPs ∧ S1 = [.im (.lst (dT [t, u])), .im (.lst (xs.map dPs)), .im (.dic W), .im (.lst [.int 0, .int 1]), .ml (dT (done.flatMap (argP W))), z5, z6, z7, .un]) no ⟨[], xs, .un, .un, .un, rfl, rfl, rfl⟩ ?_ ?_ (fun _ h => h.elim)
  · rintro d r S1 ⟨done, rest, z5, z6, z7, e, er, rfl⟩
    obtain ⟨y, rest, rfl, rfl, rfl⟩ := map_cons_inv er
    have hy := hP.ok y (by rw [e]; simp)
    have hym : y ∈ xs := by rw [e]; simp
    have hly := hal y hym
    have hbd := hb done (y :: rest) e
    have e' : xs = (done ++ [y]) ++ rest := by rw [e]; simp
    have efm : dT ((done ++ [y]).flatMap (argP W)) = dT (done.flatMap (argP W)) ++ dT (argP W y) := by rw [List.flatMap_append, dT_app]; simp
    have htl : (tups W y.off y.ab).length = y.ab := by simp [tups]
    have hab := hy.ab
    refine ⟨_, tg_name, ?_⟩
    refine q_ext rfl (v_call (⟨y, W⟩ : GTup) (a_consV (e_var rfl) (a_consV (e_var rfl) a_nil)) ⟨hy.ab, hy.off, fun k n hn => by have := hW.bd k n hn; omega⟩) (by rw [dT_len, dT_len, htl]; omega) ?_
    cases ht : y.turn with
    | none =>
      refine c_no (ts_is (t_bV (v_notN (b := false) (v_tn cf (e_var rfl)) (fun B v rv => by rw [ht] at rv; cases rv; rfl))) rfl) (c_next ⟨done ++ [y], rest, .im (dPs y), z6, z7, e', rfl, ?_⟩)
      have ear : argP W y = tups W y.off y.ab := by
        unfold argP
        rw [ht, List.append_nil]
      rw [efm, ear]
      rfl
    | some k =>
      obtain ⟨n, hn, hc⟩ := hW.le y hym (lvP y) (by simp [lvl])
      have wn : wOf W (lvP y).1 = n := by simp [wOf, hn]
      have hn81 := hW.top (lvP y).1
      rw [wn] at hn81
      have hk := (hy.tn k ht).1
      have hk2 : k < n := Nat.lt_of_lt_of_le hk hc
      refine c_yes (ts_is (t_bV (v_notN (b := true) (v_tn cf (e_var rfl)) (fun B v rv => by rw [ht] at rv; cases rv; rfl))) rfl) ?_
      refine q_tg (v_op (v_meth y (e_var rfl) rfl hy.hk) e_int (o_ixL (d := dLC (lvP y)) (atI_pos (n := 0) rfl))) tg_two ?_
      refine q_ext (es := dT (List.replicate (n - (lvP y).2) idT)) rfl (v_is (v_op (v_lst (ds := [tmD idT]) (a_consV (e_id hI) a_nil)) (v_op (v_dget (e_var rfl) (e_var rfl) hn) (e_var rfl) o_sub) (o_repL (by omega) (by simp; omega) (by omega))) ?_) (by rw [List.length_append, dT_len, dT_len, dT_len, htl, List.length_replicate]; omega) ?_
      · rw [rep_flat, dT_rep, show ((n : Int) - ((lvP y).2 : Int)).toNat = n - (lvP y).2 by omega]
      · refine c_app (d := tmD (proj k n)) rfl (v_call (⟨k, n⟩ : GProj) (a_is (a_consV (v_tn cf (e_var rfl)) (a_consV (v_dget (e_var rfl) (e_var rfl) hn) a_nil)) (by rw [ht]; rfl)) ⟨hk2, by show n ≤ 1000; omega⟩) (by rw [List.length_append, List.length_append, dT_len, dT_len, dT_len, htl, List.length_replicate]; omega) ⟨done ++ [y], rest, .im (dPs y), .im (.int ((lvP y).1 : Int)), .im (.int ((lvP y).2 : Int)), e', rfl, ?_⟩
        have ear : dT (argP W y) = dT (tups W y.off y.ab) ++ (dT (List.replicate (n - (lvP y).2) idT) ++ [tmD (proj k n)]) := by
          unfold argP
          rw [ht]
          simp only
          rw [wn, dT_app, dT_app]
          rfl
        rw [efm, ear]
        show [_, _, _, _, Sl.ml (((dT (done.flatMap (argP W)) ++ dT (tups W y.off y.ab)) ++ dT (List.replicate (n - (lvP y).2) idT)) ++ [tmD (proj k n)]), _, _, _, _] = _
        rw [List.append_assoc, List.append_assoc]
  · rintro S1 ⟨done, rest, z5, z6, z7, e, er, rfl⟩
    have := map_nil_inv er
    subst this
    rw [List.append_nil] at e
    subst e
    have hbd := hb xs [] (by simp)
    have hgr := greatest_le hW.top (lvP x) (lvQ x)
    have hcl := choices_len W (lvP x) (lvQ x)
    have hcho : PCho ⟨x, W⟩ := by
      obtain ⟨n1, a1, a2⟩ := hW.le x hmem (lvP x) (by simp [lvl])
      obtain ⟨n2, b1, b2⟩ := hW.le x hmem (lvQ x) (by simp [lvl])
      have a3 := hW.bd _ _ a1
      have b3 := hW.bd _ _ b1
      refine ⟨⟨n1, a1, a2, by omega⟩, ⟨n2, b1, b2, by omega⟩, ?_⟩
      have := hW.ne
      rw [exl] at this
      exact this hpq
    refine q_ext rfl (v_call (⟨x, W⟩ : GCho) (a_is (a_consV (v_meth x (v_op (e_var rfl) (v_neg e_int) (o_ixL at1)) rfl hlast.hk) (a_consV (e_var rfl) (a_consV (e_var rfl) a_nil))) rfl) hcho) (by rw [dT_len, dT_len, hcl]; omega) ?_
    have eAS : dT (xs.flatMap (argP W)) ++ dT (choices W (lvP x) (lvQ x)) = dT AS := by rw [ea, dT_app]
    simp only
    show CmD K C _ [.im (.lst (dT [t, u])), .im (.lst (xs.map dPs)), .im (.dic W), .im (.lst [.int 0, .int 1]), .ml (dT (xs.flatMap (argP W)) ++ dT (choices W (lvP x) (lvQ x))), z5, z6, z7, .un] _ _ _ _
    rw [eAS]
    have hlen : AS.length ≤ 30000 := by
      rw [ea, List.length_append, hcl]; omega
    have hpos : AS ≠ [] := by
      intro z
      rw [ea] at z
      have := congrArg List.length z
      rw [List.length_append, hcl] at this
      simp at this
    -- the greatest
    obtain ⟨m, hm0, hm⟩ := max_ex (AS.map fun a => (size a : Int))
    have hm := hm (by simp [hpos])
    have tst : TsD K C (tOr (tTest (tOp (rGtI) (tCB (rLenS K) (tCons (tVar 4) (tNil))) (tC (.int 400)))) (tTest (tOp (rGtI) (tCB (rMax K) (tCons (tLc (iList K (tVar 4)) (gName 8) (tYes) (tCB (rLenS K) (tCons (tVar 8) (tNil))) [8]) (tNil))) (tC (.int 1000))))) [.im (.lst (dT [t, u])), .im (.lst (xs.map dPs)), .im (.dic W), .im (.lst [.int 0, .int 1]), .ml (dT AS), z5, z6, z7, .un]
        (fun b => b = (decide ((400 : Int) < ((AS.length : Nat) : Int)) || decide ((1000 : Int) < m))) := by
      refine t_peek (j := 4) rfl (t_orV (t_testV (v_is (v_op (v_cb (ds := [.lst (dT AS)]) (a_consV (e_var rfl) a_nil) k_lenL) e_int o_gt) (by rw [dT_len]))) fun _ => t_testV (v_op (v_cb (ds := [.lst ((AS.map fun a => (size a : Int)).map D.int)]) (a_consV (v_is (e := .lst ((AS.map fun a => (size a : Int)).map D.int)) (v_lcG (as := AS) (g := tmD) (f := fun a => .int (size a : Int)) (it_list (e_var rfl)) rfl (fun a _ => ?_) (by omega)) (by rw [List.map_map]; rfl)) a_nil) (k_max hm.1 hm.2)) e_int o_gt))
      exact v_is (v_cb (ds := [tmD a]) (a_consV (e_var rfl) a_nil) k_lenT) (by rw [enc_len])
    have hok : okA AS ↔ (decide ((400 : Int) < ((AS.length : Nat) : Int)) || decide ((1000 : Int) < m)) = false := by
      rw [Bool.or_eq_false_iff, decide_eq_false_iff_not, decide_eq_false_iff_not]
      constructor
      · rintro ⟨h1, h2⟩
        obtain ⟨a, ha, e⟩ := List.mem_map.mp hm.1
        have := h2 a ha
        omega
      · rintro ⟨h1, h2⟩
        refine ⟨by omega, fun a ha => ?_⟩
        have := hm.2 _ (List.mem_map.mpr ⟨a, ha, rfl⟩)
        omega
    refine q_ways tst (fun hb => q_brk ?_) (fun hb => q_next ?_)
    · rw [hok, ← hb]; decide
    · refine c_freeze (j := 4) rfl (c_retV (v_tup (ds := [_, _]) (a_consV (e_var rfl) (a_consV (e_var rfl) a_nil))) ⟨rfl, hok.mpr hb.symm⟩)
theorem seqA {te : TE} {g : TG} {u1 u2 : TS} {E1 E2 : Ends} (h : u1 E1 = u2 E2) : (tSeq (tAsg te g) u1) E1 = (tSeq (tAsg te g) u2) E2 := by
  show tAsg te g { E1 with nx := u1 E1 } = tAsg te g { E2 with nx := u2 E2 }
  rw [h]
  rfl
theorem seqD {te : TE} {u1 u2 : TS} {E1 E2 : Ends} (h : u1 E1 = u2 E2) : (tSeq (tDrop te) u1) E1 = (tSeq (tDrop te) u2) E2 := by
  show tDrop te { E1 with nx := u1 E1 } = tDrop te { E2 with nx := u2 E2 }
  rw [h]
  rfl
theorem seqF {wi : TI} {g : TG} {tb : TS} {u1 u2 : TS} {E1 E2 : Ends} (hr : E1.rt = E2.rt) (h : u1 E1 = u2 E2) : (tSeq (tFor wi g tb) u1) E1 = (tSeq (tFor wi g tb) u2) E2 := by
  show tFor wi g tb { E1 with nx := u1 E1 } = tFor wi g tb { E2 with nx := u2 E2 }
  rw [h]
  unfold tFor
  simp only [hr]
theorem sep_same (K : PySem.W.Frag) (C aI cT : Addr) (Q : VK) (E : XK) : t_separate K C aI (tRz E cT) { nx := fun _ H' => Q .non H', rt := Q } = t_separate K C aI tBreak { nx := fun _ H' => Q .non H', rt := Q, bk := fun _ H' => E (.ref cT) none H' } := by
  unfold t_separate
  refine seqA (seqA (seqA (seqA (seqF rfl (seqD ?_)))))
  rfl
theorem c_separate (K : PySem.W.Frag) (C aI : Addr) (hI : ∀ B, SqT K B aI [.str "lam", .int 0]) (cT : Addr) (cf : Cf K C) {vs : List V} {H : Hp} {Q : VK} {E : XK} (h : sp_separate K C cT vs H Q E) :
    t_separate K C aI (tRz E cT) { nx := fun _ H' => Q .non H', rt := Q } (L2.start n_separate vs) H := by
  obtain ⟨Z, B, g, hv, ha, hno, hold, hp, q1, q2⟩ := h
  obtain ⟨hst, nown⟩ := start_hold (N := n_separate) hv ha hno hold
  have := cm_separate K C aI hI cf g hp Z B H (L2.start n_separate vs) { nx := fun _ H' => Q .non H', rt := Q, bk := fun _ H' => E (.ref cT) none H' } hst (fun _ _ _ _ hN _ => hN.elim) (fun v d B' H' hR f r => q1 v d B' H' hR (f.post nown) r)
    (fun S' σ' B' H' hB st => q2 hB B' H' (st.post nown)) (fun _ _ _ _ hN _ => hN.elim)
  rw [sep_same]
  exact this
theorem ok_separate {P : Program} {w : World} {K : PySem.W.Frag} {mg : Str → Option Value} {base : Heap} {C aI cT f : Addr} {fd : FuncData} (X : Tx K mg C aI) (XT : Et K mg cT) (F : Fun K "separate" "separate" s_separate f fd) (hm : mg "separate" = some (.ref f)) (cf : Cf K C) (D_Position_levels : Dm P w K mg base 1 C "levels" ["self"] (sp_Position_levels K C)) (D_choices_at_end : Df P w K mg base 3 "choices_at_end" ["ends", "widths", "groups"] (sp_choices_at_end K C)) (D_groups_of : Df P w K mg base 1 "groups_of" ["ends"] (sp_groups_of K C)) (D_positions_of : Df P w K mg base 9 "positions_of" ["crowd"] (sp_positions_of K C)) (D_projection : Df P w K mg base 2 "projection" ["index", "count"] (sp_projection K C)) (D_tuplers_of : Df P w K mg base 3 "tuplers_of" ["position", "widths"] (sp_tuplers_of K C)) (D_widths_of : Df P w K mg base 3 "widths_of" ["positions"] (sp_widths_of K C)) :
    De P w K mg base 10 "separate" ["crowd"] (sp_separate K C cT) :=
  de_mk hm F.kp (F.binds fun _ _ _ _ _ _ us hl => match us, hl with | [_], _ => rfl) (F.okX sc_separate spX_len fun cdv A outer s H vs Q E hr h => ⟨t_separate K C aI (tRz E cT), pss_cons (ps_set (i := 1) sc_separate.nd rfl (by first | exact Or.inl rfl | exact Or.inr rfl) (pe_own D_positions_of (hr.mono (by decide)) (by rfl) (pa_cons (pv 0) (pa_nil)))) (pss_cons (ps_set (i := 2) sc_separate.nd rfl (by first | exact Or.inl rfl | exact Or.inr rfl) (pe_own D_widths_of (hr.mono (by decide)) (by rfl) (pa_cons (pv 1) (pa_nil)))) (pss_cons (ps_set (i := 3) sc_separate.nd rfl (by first | exact Or.inl rfl | exact Or.inr rfl) (pe_own D_groups_of (hr.mono (by decide)) (by rfl) (pa_cons (pe_lev cf D_Position_levels (hr.mono (by decide)) (pe_ix ix_seq (pv 1) (pe_un un_neg (pe_int)) (fun _ _ => rfl))) (pa_nil)))) (pss_cons (ps_set (i := 4) sc_separate.nd rfl (by first | exact Or.inl rfl | exact Or.inr rfl) (pe_lst (pa_nil))) (pss_cons (ps_for (passes_of rfl) rfl (pi_list (pv 1)) (pg_name (i := 5) sc_separate.nd rfl (by first | exact Or.inl rfl | exact Or.inr rfl)) (pss_cons (ps_expr (pe_bm PySem.F.plainAttrs_list PySem.F.slot_list_extend PySem.F.type_list_extend mt_extend (pv 4) (pa_cons (pe_own D_tuplers_of (hr.mono (by decide)) (by rfl) (pa_cons (pv 5) (pa_cons (pv 2) (pa_nil)))) (pa_nil)))) (pss_one (ps_if (pt_cmp (pc_notN (pe_fld (pv 5) rfl))) (pss_cons (ps_asg (pe_ix ix_seq (pe_lev cf D_Position_levels (hr.mono (by decide)) (pv 5)) (pe_int) (fun _ _ => rfl)) (pg_tup rfl (pgs_cons (pg_name (i := 6) sc_separate.nd rfl (by first | exact Or.inl rfl | exact Or.inr rfl)) (pgs_cons (pg_name (i := 7) sc_separate.nd rfl (by first | exact Or.inl rfl | exact Or.inr rfl)) (pgs_nil))))) (pss_cons (ps_expr (pe_bm PySem.F.plainAttrs_list PySem.F.slot_list_extend PySem.F.type_list_extend mt_extend (pv 4) (pa_cons (pe_op op_rep (pe_lst (pa_cons (pe_glob (by rfl) X.IDENTITY rfl) (pa_nil))) (pe_op op_sub (pe_dget (hu_of hr) (pv 2) (pv 6) (fun _ _ => rfl)) (pv 7))) (pa_nil)))) (pss_one (ps_expr (pe_bm PySem.F.plainAttrs_list PySem.F.slot_list_append PySem.F.type_list_append mt_append (pv 4) (pa_cons (pe_own D_projection (hr.mono (by decide)) (by rfl) (pa_cons (pe_fld (pv 5) rfl) (pa_cons (pe_dget (hu_of hr) (pv 2) (pv 6) (fun _ _ => rfl)) (pa_nil)))) (pa_nil))))))) (pss_nil))))) (pss_cons (ps_expr (pe_bm PySem.F.plainAttrs_list PySem.F.slot_list_extend PySem.F.type_list_extend mt_extend (pv 4) (pa_cons (pe_own D_choices_at_end (hr.mono (by decide)) (by rfl) (pa_cons (pe_lev cf D_Position_levels (hr.mono (by decide)) (pe_ix ix_seq (pv 1) (pe_un un_neg (pe_int)) (fun _ _ => rfl))) (pa_cons (pv 2) (pa_cons (pv 3) (pa_nil))))) (pa_nil)))) (pss_cons (ps_if (PW.pt (pw_or (pt_cmpR (op_gt) (pe_callB call_len_seq (by rfl) X.len (by decide +kernel) (pa_cons (pv 4) (pa_nil))) (pe_globI (by rfl) X.MOST_ARGUMENTS) (nomark _)) (pw_or1 (pt_cmpR (op_gt) (pe_callB (cr_max rfl) (by rfl) X.max (by decide +kernel) (pa_cons (pe_lc (own := [("argument", 8)]) (g := gName 8) rfl sc_separate.nd (pi_list (pv 4)) (blkOk_by (own := [("argument", 8)]) (N := n_separate) (sc := defScope s_separate) (by decide +kernel)) (fun _ _ _ _ _ => pg_name (i := 8) sc_separate.nd rfl (by first | exact Or.inl rfl | exact Or.inr rfl)) (fun _ _ _ _ _ => pts_nil) (fun _ _ _ _ _ => pe_callB call_len_seq (by rfl) X.len (by decide +kernel) (pa_cons (pv 8) (pa_nil)))) (pa_nil))) (pe_globI (by rfl) X.MOST_NODES) (nomark _))))) (pss_one (ps_raise rfl (takes_of rfl rfl rfl rfl) (pmk_own PySem.F.excBase_ValueError XT.x XT.g XT.k (raises_own XT.b XT.t) (by exact rfl)))) (pss_nil)) (pss_one (ps_ret (pe_tup (pa_cons (pv 4) (pa_cons (pv 3) (pa_nil)))))))))))), c_separate K C aI X.ident cT cf h⟩)
end Wk
end
section
set_option Elab.async false
set_option autoImplicit false
set_option linter.all false
set_option maxRecDepth 100000
set_option maxHeartbeats 4000000
/-! tell, _law_tell. -/
namespace Wk
open PySem L2 Dl Dx Lam
abbrev aTwo (g : G2) : List Sl := [.im (tmD g.t), .im (tmD g.u)]
def sp_tell (K : PySem.W.Frag) (C cT : Addr) : Sp := spX K C 2 aTwo PCrowd (fun g d => d = .lst (dT (args g.t g.u)) ∧ okA (args g.t g.u)) (fun g => ¬ okA (args g.t g.u)) cT
abbrev s_tell : Stmt := topS 53
abbrev n_tell : List Str := ["first", "second"]
theorem sc_tell : FnScope n_tell ["first", "second"] (defScope s_tell) := ⟨rfl, rfl, rfl, by decide +kernel, rfl, by decide +kernel, by decide +kernel⟩
def t_tell (K : PySem.W.Frag) (C cT : Addr) (EX : XK) : TS := tRet (tOp (rIx K) (tCallS (sp_separate K C cT) (fun _ => EX) (tCons (tLst (tCons (tVar 0) (tCons (tVar 1) tNil))) tNil)) (tC (.int 0)))
theorem c_tell (K : PySem.W.Frag) (C cT : Addr) {vs : List V} {H : Hp} {Q : VK} {E : XK} (h : sp_tell K C cT vs H Q E) : t_tell K C cT E { nx := fun _ H' => Q .non H', rt := Q } (L2.start n_tell vs) H := by
  obtain ⟨Z, B, g, hv, ha, hno, hold, hp, q1, q2⟩ := h
  obtain ⟨hst, nown⟩ := start_hold (N := n_tell) hv ha hno hold
  have hA : AgD K C (tCons (tLst (tCons (tVar 0) (tCons (tVar 1) tNil))) tNil) (aTwo g ++ List.replicate (n_tell.length - 2) .un) (fun ss => ss = [.im (.lst (dT [g.t, g.u]))]) :=
    a_consV (v_lst (ds := [tmD g.t, tmD g.u]) (a_consV (e_var rfl) (a_consV (e_var rfl) a_nil))) a_nil
  unfold t_tell
  refine hA Z B H (L2.start n_tell vs) (fun ws H1 => sp_separate K C cT ws H1 (fun x H2 => rIx K x (.int 0) H2 Q) E) hst fun ws ss B1 H1 es P1 r1 => ?_
  subst es
  obtain ⟨no, hold1⟩ := holds_args (hst.post P1) r1
  refine ⟨Z, B1, g, r1.length, rfl, no, hold1, hp, fun v d B2 H2 hd P2 r2 => ?_, fun hb B2 H2 P2 => q2 hb B2 H2 (P1.trans hst.str P2)⟩
  obtain ⟨rfl, hok⟩ := hd
  have P12 := P1.trans hst.str P2
  refine o_ixT (d := .lst (dT (args g.t g.u))) (atI_pos (n := 0) rfl) Z B2 H2 v (.int 0) _ P12.sub2 P12.str r2 (.int 0) fun w d B3 H3 ed P3 r3 => ?_
  subst ed
  exact q1 w _ B3 H3 ⟨rfl, hok⟩ (P12.trans hst.str P3) r3
theorem ok_tell {P : Program} {w : World} {K : PySem.W.Frag} {mg : Str → Option Value} {base : Heap} {C aI cT f : Addr} {fd : FuncData} (X : Tx K mg C aI) (F : Fun K "tell" "tell" s_tell f fd) (hm : mg "tell" = some (.ref f)) (D_separate : De P w K mg base 10 "separate" ["crowd"] (sp_separate K C cT)) :
    De P w K mg base 11 "tell" ["first", "second"] (sp_tell K C cT) :=
  de_mk hm F.kp (F.binds fun _ _ _ _ _ _ us hl => match us, hl with | [_, _], _ => rfl) (F.okX sc_tell spX_len fun cdv A outer s H vs Q E hr h => ⟨t_tell K C cT E,
    pss_one (ps_ret (pe_ix ix_seq (pe_calX D_separate (hr.mono (by decide)) (by rfl) (fun σ => passAt (W := fun cls d _ H => E cls d H) (takes_of rfl rfl rfl rfl) σ) (pa_cons (pe_lst (pa_cons (pv 0) (pa_cons (pv 1) (pa_nil)))) pa_nil)) pe_int (fun _ _ => rfl))), c_tell K C cT h⟩)
abbrev pTell (g : G2) (d : D) : Prop := (d = .non ∧ ¬ okA (args g.t g.u)) ∨ (d = .lst (dT (args g.t g.u)) ∧ okA (args g.t g.u))
def sp__law_tell (K : PySem.W.Frag) (C : Addr) : Sp := spG K C 2 aTwo PCrowd pTell
abbrev s__law_tell : Stmt := topS 77
abbrev n__law_tell : List Str := ["_law_first", "_law_second"]
theorem sc__law_tell : FnScope n__law_tell ["_law_first", "_law_second"] (defScope s__law_tell) := ⟨rfl, rfl, rfl, by decide +kernel, rfl, by decide +kernel, by decide +kernel⟩
def t__law_tell (K : PySem.W.Frag) (C cT : Addr) : TS := tSeq (fun D σ H => tRet (tCallS (sp_tell K C cT) (WE (wOnly K (.ref cT) (fun _ _ _ => tRet (tC .non)) (fun _ _ _ _ => False) D)) (tCons (tVar 0) (tCons (tVar 1) tNil))) D σ H) tNever
theorem c__law_tell (K : PySem.W.Frag) (C cT : Addr) (eT : PySem.W.exmOne K (.ref cT) (.ref cT) = some true) {vs : List V} {H : Hp} {Q : VK} {E : XK} (h : sp__law_tell K C vs H Q E) : t__law_tell K C cT { nx := fun _ H' => Q .non H', rt := Q } (L2.start n__law_tell vs) H := by
  obtain ⟨Z, B, g, hv, ha, hno, hold, hp, q⟩ := h
  obtain ⟨hst, nown⟩ := start_hold (N := n__law_tell) hv ha hno hold
  have hA : AgD K C (tCons (tVar 0) (tCons (tVar 1) tNil)) (aTwo g ++ List.replicate (n__law_tell.length - 2) .un) (fun ss => ss = [.im (tmD g.t), .im (tmD g.u)]) :=
    a_consV (e_var rfl) (a_consV (e_var rfl) a_nil)
  unfold t__law_tell
  refine hA Z B H (L2.start n__law_tell vs) (fun ws H1 => sp_tell K C cT ws H1 Q (WE (wOnly K (.ref cT) (fun _ _ _ => tRet (tC .non)) (fun _ _ _ _ => False) { nx := tNever { nx := fun _ H' => Q .non H', rt := Q }, rt := Q }) (L2.start n__law_tell vs))) hst fun ws ss B1 H1 es P1 r1 => ?_
  subst es
  obtain ⟨no, hold1⟩ := holds_args (hst.post P1) r1
  refine ⟨Z, B1, g, r1.length, rfl, no, hold1, hp, fun v d B2 H2 hd P2 r2 => q v d B2 H2 (.inr hd) (P1.trans hst.str P2) r2, fun hb B2 H2 P2 => ⟨true, eT, fun _ a _ => q .non .non B2 H2 (.inl ⟨rfl, hb⟩) (P1.trans hst.str P2) .non, fun e => nomatch e⟩⟩
theorem ok__law_tell {P : Program} {w : World} {K : PySem.W.Frag} {mg : Str → Option Value} {base : Heap} {C aI cT f : Addr} {fd : FuncData} (X : Tx K mg C aI) (XT : Et K mg cT) (F : Fun K "_law_tell" "_law_tell" s__law_tell f fd) (hm : mg "_law_tell" = some (.ref f)) (D_tell : De P w K mg base 11 "tell" ["first", "second"] (sp_tell K C cT)) :
    Df P w K mg base 12 "_law_tell" ["_law_first", "_law_second"] (sp__law_tell K C) :=
  df_mk hm F.kp (F.binds fun _ _ _ _ _ _ us hl => match us, hl with | [_, _], _ => rfl) (F.ok sc__law_tell spG_len fun cdv A outer s H vs Q E hr h => ⟨t__law_tell K C cT,
    pss_cons (ps_try_only (tb := fun W => tRet (tCallS (sp_tell K C cT) (WE W) (tCons (tVar 0) (tCons (tVar 1) tNil)))) (ts := fun _ _ _ => tRet (tC .non)) (Wout := fun _ _ _ _ => False) rfl rfl ⟨rfl, by decide, Or.inl XT.g⟩ takes0
      (fun W pn xe tk _ => pss_one (ps_ret (pe_calX D_tell (hr.mono (by decide)) (by rfl) (fun σ => passAt tk σ) (pa_cons (pv 0) (pa_cons (pv 1) pa_nil)))))
      (fun _ _ _ _ _ _ _ => pss_one (ps_ret pe_non))) pss_never, c__law_tell K C cT XT.e h⟩)
end Wk
end
section
set_option Elab.async false
set_option autoImplicit false
set_option linter.all false
set_option maxRecDepth 100000
set_option maxHeartbeats 4000000
/-! _law_stream, _law_draw. -/
namespace Wk
open PySem L2 Dl Dx Lam
structure GStr where
  a : Addr
  ns : List Int
abbrev pStr (g : GStr) (d : D) : Prop := ∃ c : Nat, c < 2147483648 ∧ d = .lst [.lst (g.ns.map D.int), .int 0, .int 0, .int (c : Int)]
def sp__law_stream (K : PySem.W.Frag) (C : Addr) : Sp := spG K C 1 (fun g : GStr => [.sq g.a (g.ns.map V.int)]) (fun _ => True) pStr
abbrev s__law_stream : Stmt := topS 55
abbrev n__law_stream : List Str := ["_law_script", "_law_mixed", "_law_cell"]
theorem sc__law_stream : FnScope n__law_stream ["_law_script"] (defScope s__law_stream) := ⟨rfl, rfl, rfl, by decide +kernel, rfl, by decide +kernel, by decide +kernel⟩
-- calls: []; level 1; slots: 0:_law_script 1:_law_mixed 2:_law_cell
def t__law_stream (K : PySem.W.Frag) (C : Addr) : TS := tSeq (tAsg (tC (.int 17)) (gName 1)) (tSeq (tFor (iList K (tVar 0)) (gName 2) (tAsg (tOp (rModI) (tCB (rIntC) (tCons (tOp (rAddI) (tOp (rAddI) (tMul (tVar 1) (tC (.int 48271))) (tOp (rModI) (tCB (rIntC) (tCons (tVar 2) (tNil))) (tC (.int 65521)))) (tC (.int 1))) (tNil))) (tC (.int 2147483647))) (gName 1))) (tRet (tLst (tCons (tCB (rListS K) (tCons (tVar 0) (tNil))) (tCons (tC (.int 0)) (tCons (tC (.int 0)) (tCons (tVar 1) (tNil))))))))
theorem c__law_stream (K : PySem.W.Frag) (C : Addr) (g : GStr) (_ : True) (_ : ([.sq g.a (g.ns.map V.int)] : List Sl).length = 1) :
    CmD K C (t__law_stream K C) ([.sq g.a (g.ns.map V.int)] ++ List.replicate (n__law_stream.length - 1) .un) (fun _ => pStr g .non) (pStr g) no no := by
  obtain ⟨a, ns⟩ := g
  refine q_set e_int ?_
  refine q_forR (it_sq rfl) (fun r S1 => ∃ (ms : List Int) (m : Int) (z : Sl), r = ms.map D.int ∧ 0 ≤ m ∧ m < 2147483648 ∧ S1 = [.sq a (ns.map V.int), .im (.int m), z]) no ⟨ns, 17, .un, rfl, by decide, by decide, rfl⟩ ?_ ?_ (fun _ h => h.elim)
  · rintro d r S1 ⟨ms, m, z, er, h1, h2, rfl⟩
    obtain ⟨x, ms', rfl, rfl, rfl⟩ := map_cons_inv er
    refine ⟨_, tg_name, ?_⟩
    refine c_asgV (v_op (v_cb (ds := [_]) (a_consV (v_op (v_op (v_mul (e_var rfl) e_int (by omega) (by omega)) (v_op (v_cb (ds := [.int x]) (a_consV (e_var rfl) a_nil) k_int) e_int (o_mod (by decide))) o_add) e_int o_add) a_nil) k_int) e_int (o_mod (by decide))) ⟨ms', _, .im (.int x), rfl, Int.emod_nonneg _ (by decide), Int.lt_trans (Int.emod_lt_of_pos _ (by decide)) (by decide), rfl⟩
  · rintro S1 ⟨ms, m, z, er, h1, h2, rfl⟩
    refine c_retV (v_lst (ds := [.lst (ns.map D.int), .int 0, .int 0, .int m]) (a_consV (v_listS rfl) (a_consV e_int (a_consV e_int (a_consV (e_var rfl) a_nil))))) ⟨m.toNat, by omega, ?_⟩
    simp only
    rw [Int.toNat_of_nonneg h1]
theorem ok__law_stream {P : Program} {w : World} {K : PySem.W.Frag} {mg : Str → Option Value} {base : Heap} {C aI f : Addr} {fd : FuncData} (X : Tx K mg C aI) (F : Fun K "_law_stream" "_law_stream" s__law_stream f fd) (hm : mg "_law_stream" = some (.ref f))  :
    Df P w K mg base 1 "_law_stream" ["_law_script"] (sp__law_stream K C) :=
  df_mk hm F.kp (F.binds fun _ _ _ _ _ _ us hl => match us, hl with | [_], _ => rfl) (F.ok sc__law_stream spG_len fun cdv A outer s H vs Q E hr h => ⟨t__law_stream K C, pss_cons (ps_set (i := 1) sc__law_stream.nd rfl (by first | exact Or.inl rfl | exact Or.inr rfl) (pe_int)) (pss_cons (ps_for PassesOwn.never rfl (pi_list (pv 0)) (pg_name (i := 2) sc__law_stream.nd rfl (by first | exact Or.inl rfl | exact Or.inr rfl)) (pss_one (ps_set (i := 1) sc__law_stream.nd rfl (by first | exact Or.inl rfl | exact Or.inr rfl) (pe_op op_mod (pe_callTy call_int1 (by rfl) X.int (by decide +kernel) (pa_cons (pe_op op_add (pe_op op_add (pe_mul (pv 1) (pe_int)) (pe_op op_mod (pe_callTy call_int1 (by rfl) X.int (by decide +kernel) (pa_cons (pv 2) (pa_nil))) (pe_int))) (pe_int)) (pa_nil))) (pe_int))))) (pss_one (ps_ret (pe_lst (pa_cons (pe_callTy call_list_of (by rfl) X.list (by decide +kernel) (pa_cons (pv 0) (pa_nil))) (pa_cons (pe_int) (pa_cons (pe_int) (pa_cons (pv 1) (pa_nil))))))))), run_of (E := E) (c__law_stream K C) h⟩)
abbrev aDraw (m : Nat) : List Sl := [.st, .im (.int (m : Int))]
def sp__law_draw (K : PySem.W.Frag) (C : Addr) : Sp := spG K C 2 aDraw (fun m => 0 < m ∧ m < 1000000) (fun m d => ∃ v : Nat, v < m ∧ d = .int (v : Int))
abbrev s__law_draw : Stmt := topS 56
abbrev n__law_draw : List Str := ["_law_stream_here", "_law_many", "_law_value"]
theorem sc__law_draw : FnScope n__law_draw ["_law_stream_here", "_law_many"] (defScope s__law_draw) := ⟨rfl, rfl, rfl, by decide +kernel, rfl, by decide +kernel, by decide +kernel⟩
-- calls: []; level 1; slots: 0:_law_stream_here 1:_law_many 2:_law_value
def t__law_draw (K : PySem.W.Frag) (C : Addr) : TS := tSeq (tIfS (tAnd (tTest (tOp (rEq) (tOp (rIx K) (tVar 0) (tC (.int 1))) (tC (.int 0)))) (tTest (tOp (rLtI) (tOp (rIx K) (tVar 0) (tC (.int 2))) (tCB (rLenS K) (tCons (tOp (rIx K) (tVar 0) (tC (.int 0))) (tNil)))))) (tSeq (tAsg (tCB (rAbs) (tCons (tCB (rIntC) (tCons (tOp (rIx K) (tOp (rIx K) (tVar 0) (tC (.int 0))) (tOp (rIx K) (tVar 0) (tC (.int 2)))) (tNil))) (tNil))) (gSub (tVar 0) (tC (.int 1)) rSetL)) (tAsg (tOp (rAddI) (tOp (rIx K) (tVar 0) (tC (.int 2))) (tC (.int 1))) (gSub (tVar 0) (tC (.int 2)) rSetL))) (tNext)) (tSeq (tIfS (tTest (tOp (rEq) (tOp (rIx K) (tVar 0) (tC (.int 1))) (tC (.int 0)))) (tSeq (tAsg (tOp (rModI) (tCB (rIntC) (tCons (tOp (rAddI) (tMul (tOp (rIx K) (tVar 0) (tC (.int 3))) (tC (.int 48271))) (tC (.int 11))) (tNil))) (tC (.int 2147483647))) (gSub (tVar 0) (tC (.int 3)) rSetL)) (tRet (tOp (rModI) (tCB (rIntC) (tCons (tOp (rDivI) (tOp (rIx K) (tVar 0) (tC (.int 3))) (tC (.int 97))) (tNil))) (tVar 1)))) (tNext)) (tSeq (tAsg (tOp (rModI) (tCB (rIntC) (tCons (tOp (rIx K) (tVar 0) (tC (.int 1))) (tNil))) (tVar 1)) (gName 2)) (tSeq (tAsg (tOp (rDivI) (tOp (rIx K) (tVar 0) (tC (.int 1))) (tVar 1)) (gSub (tVar 0) (tC (.int 1)) rSetL)) (tRet (tVar 2)))))
abbrev Lst4 (l : Addr) (a b c : Int) : List V := [.ref l, .int a, .int b, .int c]
theorem eq_raw {x y : Int} : ∀ {H : Hp} (Q : VK), Q (.bl (decide (x = y))) H → rEq (.int x) (.int y) H Q := fun {H} Q q => ⟨rfl, by
  have e : decide (V.int x = V.int y) = decide (x = y) := by rw [dec_int]; rfl
  rw [e]; exact q⟩
/-- stream[i] = e -/
theorem draw_set {σ : L2.St} {H : Hp} {E : Ends} {te : TE} {p : Addr} {xs : List V} {k : Int} {j : Nat} {w : V} (h0 : σ[0]? = some (some (.ref p))) (hp : H p = some (.lst xs)) (h : Pu te σ H w) (hj : ixN xs.length k = some j) {H2 : Hp} (e : upd H p (.lst (xs.set j w)) = H2) (q : E.nx σ H2) :
    tAsg te (gSub (tVar 0) (tC (.int k)) rSetL) E σ H := by
  subst e
  exact h _ ⟨.ref p, h0, p, xs, k, j, rfl, rfl, hp, hj, q⟩
theorem nat_set {f : Nat} {i : Int} (h1 : 0 ≤ i) (h2 : i < f) : ∃ n : Nat, n < f ∧ i = (n : Int) := ⟨i.toNat, by omega, by omega⟩
theorem c__law_draw (K : PySem.W.Frag) (C : Addr) {vs : List V} {H : Hp} {Q : VK} {E : XK} (h : sp__law_draw K C vs H Q E) : t__law_draw K C { nx := fun _ H' => Q .non H', rt := Q } (L2.start n__law_draw vs) H := by
  obtain ⟨Z, B, m, hv, ha, hno, hold, ⟨hm0, hm1⟩, q⟩ := h
  obtain ⟨p, e0, l, ns, ez⟩ := hold.slot 0 _ rfl
  obtain ⟨w1, e1, r1⟩ := hold.slot 1 _ rfl
  cases r1
  have evs : vs = [.ref p, .int (m : Int)] := by
    match vs, hv, e0, e1 with
    | [x, y], _, e0, e1 => simp at e0 e1; rw [e0, e1]
  subst evs
  obtain ⟨nB, hl, a, b, c, hp⟩ := hold.str.ok p l ns ez
  have hlH : SqL K H l (ns.map V.int) := Same.seq hold.sub hl
  -- the heaps that are reached
  have good : ∀ (a' b' : Nat) (c' : Fin 2147483648), Post K Z B H B (upd H p (.lst (Lst4 l a' b' ((c'.val : Nat) : Int)))) := fun a' b' c' => by
    have nx : ∀ x o, B x = some o → x ≠ p := fun x o e z => by rw [z, nB] at e; cases e
    refine ⟨.refl B, fun x o e => by rw [upd_ne (nx x o e)]; exact hold.sub x o e, fun x o e z => ?_, .refl, ⟨fun p' l' ns' e' => ?_⟩⟩
    · have : x ≠ p := fun w => z ⟨l, ns, by rw [w]; exact ez⟩
      rw [upd_ne this]; exact e
    · rw [ez] at e'
      cases e'
      exact ⟨nB, hl, a', b', c', upd_same⟩
  have lsq : ∀ (a' b' : Nat) (c' : Fin 2147483648), SqL K (upd H p (.lst (Lst4 l a' b' ((c'.val : Nat) : Int)))) l (ns.map V.int) := fun a' b' c' => Same.seq (good a' b' c').sub2 hl
  have s0 : (L2.start n__law_draw [.ref p, .int (m : Int)])[0]? = some (some (.ref p)) := rfl
  have s1 : (L2.start n__law_draw [.ref p, .int (m : Int)])[1]? = some (some (.int (m : Int))) := rfl
  have hmz : (0 : Int) < (m : Int) := by omega
  have dm : CDiv 0 (m : Int) := ⟨hmz, by omega⟩
  -- behind the first if
  have fin : ∀ (a' b' : Nat) (c' : Fin 2147483648) (H' : Hp), H' = upd H p (.lst (Lst4 l a' b' ((c'.val : Nat) : Int))) →
      (tSeq (tIfS (tTest (tOp (rEq) (tOp (rIx K) (tVar 0) (tC (.int 1))) (tC (.int 0)))) (tSeq (tAsg (tOp (rModI) (tCB (rIntC) (tCons (tOp (rAddI) (tMul (tOp (rIx K) (tVar 0) (tC (.int 3))) (tC (.int 48271))) (tC (.int 11))) (tNil))) (tC (.int 2147483647))) (gSub (tVar 0) (tC (.int 3)) rSetL)) (tRet (tOp (rModI) (tCB (rIntC) (tCons (tOp (rDivI) (tOp (rIx K) (tVar 0) (tC (.int 3))) (tC (.int 97))) (tNil))) (tVar 1)))) (tNext))
        (tSeq (tAsg (tOp (rModI) (tCB (rIntC) (tCons (tOp (rIx K) (tVar 0) (tC (.int 1))) (tNil))) (tVar 1)) (gName 2)) (tSeq (tAsg (tOp (rDivI) (tOp (rIx K) (tVar 0) (tC (.int 1))) (tVar 1)) (gSub (tVar 0) (tC (.int 1)) rSetL)) (tRet (tVar 2))))) { nx := fun _ H' => Q .non H', rt := Q } (L2.start n__law_draw [.ref p, .int (m : Int)]) H' := by
    intro a' b' c' H' eH
    have hp' : H' p = some (.lst (Lst4 l a' b' ((c'.val : Nat) : Int))) := by rw [eH]; exact upd_same
    have sq : SqL K H' p (Lst4 l a' b' ((c'.val : Nat) : Int)) := SqL.of hp'
    have ov : ∀ o, upd H' p o = upd H p o := fun o => by
      rw [eH]
      funext x
      by_cases z : x = p
      · subst z; rw [upd_same, upd_same]
      · rw [upd_ne z, upd_ne z, upd_ne z]
    refine put_test (pu_op (pu_op (pu_var s0) pu_c (pu_ix sq (v := .int (a' : Int)) rfl)) pu_c eq_raw) _ ?_
    by_cases hz : (a' : Int) = 0
    · rw [if_pos (decide_eq_true hz)]
      obtain ⟨c2, k1, k2⟩ := nat_set (f := 2147483648) (i := ((c'.val : Int) * 48271 + 11) % 2147483647) (Int.emod_nonneg _ (by decide)) (Int.lt_trans (Int.emod_lt_of_pos _ (by decide)) (by decide))
      have hc' := c'.isLt
      refine draw_set (w := .int (c2 : Int)) s0 hp' (pu_op (pu_cb (pu_op (pu_mul (pu_op (pu_var s0) pu_c (pu_ix sq (v := .int ((c'.val : Nat) : Int)) rfl)) pu_c (by omega) (by omega)) pu_c (fun Q q => ⟨_, _, rfl, rfl, q⟩)) (fun Q q => .inl ⟨_, rfl, q⟩)) pu_c (fun Q q => ⟨_, _, rfl, rfl, by show (0 : Int) < 2147483647; decide, by show Q (.int _) _; rw [k2]; exact q⟩)) (j := 3) rfl (H2 := upd H p (.lst (Lst4 l a' b' (((⟨c2, k1⟩ : Fin 2147483648).val : Nat) : Int)))) (ov _) ?_
      have sq2 : SqL K (upd H p (.lst (Lst4 l a' b' (((⟨c2, k1⟩ : Fin 2147483648).val : Nat) : Int)))) p (Lst4 l a' b' (c2 : Int)) := SqL.of upd_same
      obtain ⟨v, v1, v2⟩ := nat_set (f := m) (i := ((c2 : Int) / 97) % (m : Int)) (Int.emod_nonneg _ (by omega)) (Int.emod_lt_of_pos _ hmz)
      exact (pu_op (z := .int (v : Int)) (pu_cb (pu_op (pu_op (pu_var s0) pu_c (pu_ix sq2 (v := .int (c2 : Int)) rfl)) pu_c (fun Q q => ⟨_, _, rfl, rfl, ⟨by decide, by decide⟩, q⟩)) (fun Q q => .inl ⟨_, rfl, q⟩)) (pu_var s1) (fun Q q => ⟨_, _, rfl, rfl, hmz, by show Q (.int _) _; rw [v2]; exact q⟩)) _ (q _ _ B _ ⟨v, v1, rfl⟩ (good a' b' ⟨c2, k1⟩) (.int _))
    · rw [if_neg (by rw [decide_eq_false hz]; decide)]
      obtain ⟨v, v1, v2⟩ := nat_set (f := m) (i := (a' : Int) % (m : Int)) (Int.emod_nonneg _ (by omega)) (Int.emod_lt_of_pos _ hmz)
      obtain ⟨a2, a3⟩ : ∃ a2 : Nat, (a' : Int) / (m : Int) = (a2 : Int) := ⟨a' / m, by simp⟩
      refine (pu_op (z := .int (v : Int)) (pu_cb (pu_op (pu_var s0) pu_c (pu_ix sq (v := .int (a' : Int)) rfl)) (fun Q q => .inl ⟨_, rfl, q⟩)) (pu_var s1) (fun Q q => ⟨_, _, rfl, rfl, hmz, by show Q (.int _) _; rw [v2]; exact q⟩)) _ ?_
      refine draw_set (w := .int (a2 : Int)) (p := p) (j := 1) rfl hp' (pu_op (pu_op (pu_var rfl) pu_c (pu_ix sq (v := .int (a' : Int)) rfl)) (pu_var rfl) (fun Q q => ⟨_, _, rfl, rfl, ⟨hmz, by omega⟩, by show Q (.int _) _; rw [a3]; exact q⟩)) rfl (H2 := upd H p (.lst (Lst4 l a2 b' ((c'.val : Nat) : Int)))) (ov _) ?_
      refine ⟨.int (v : Int), rfl, ?_⟩
      exact q _ _ B _ ⟨v, v1, rfl⟩ (good a2 b' c') (.int _)
  have upd0 : H = upd H p (.lst (Lst4 l a b ((c.val : Nat) : Int))) := by
    funext x
    by_cases z : x = p
    · subst z; rw [upd_same]; exact hp
    · rw [upd_ne z]
  have sq : SqL K H p (Lst4 l a b ((c.val : Nat) : Int)) := SqL.of hp
  have t1 : PuT (tAnd (tTest (tOp (rEq) (tOp (rIx K) (tVar 0) (tC (.int 1))) (tC (.int 0)))) (tTest (tOp (rLtI) (tOp (rIx K) (tVar 0) (tC (.int 2))) (tCB (rLenS K) (tCons (tOp (rIx K) (tVar 0) (tC (.int 0))) (tNil)))))) (L2.start n__law_draw [.ref p, .int (m : Int)]) H (decide ((a : Int) = 0) && decide ((b : Int) < ((ns.length : Nat) : Int))) :=
    put_and (put_test (pu_op (pu_op (pu_var s0) pu_c (pu_ix sq (v := .int (a : Int)) rfl)) pu_c eq_raw)) fun _ => put_test (pu_op (pu_op (pu_var s0) pu_c (pu_ix sq (v := .int (b : Int)) rfl)) (pu_cb (z := .int ((ns.length : Nat) : Int)) (pu_op (pu_var s0) pu_c (pu_ix sq (v := .ref l) rfl)) (fun Q q => ⟨l, _, rfl, .inl hlH, by rw [List.length_map]; exact q⟩)) (fun Q q => ⟨_, _, rfl, rfl, q⟩))
  refine t1 _ ?_
  cases hb : (decide ((a : Int) = 0) && decide ((b : Int) < ((ns.length : Nat) : Int))) with
  | false => exact iteF (fin a b c H upd0)
  | true =>
    have hb2 := Bool.and_eq_true_iff.mp hb
    have hlt : b < ns.length := by have := of_decide_eq_true hb2.2; omega
    have ix : atI (ns.map V.int) ((b : Nat) : Int) = some (.int ns[b]) := atI_pos (by simp [hlt])
    obtain ⟨a2, a3⟩ : ∃ a2 : Nat, (if ns[b] < 0 then -ns[b] else ns[b]) = (a2 : Int) := ⟨(ns[b]).natAbs, by split <;> omega⟩
    refine iteT ?_
    refine draw_set (w := .int (a2 : Int)) (p := p) (j := 1) rfl hp (pu_cb (pu_cb (z := .int ns[b]) (pu_op (pu_op (pu_var s0) pu_c (pu_ix sq (v := .ref l) rfl)) (pu_op (pu_var s0) pu_c (pu_ix sq (v := .int (b : Int)) rfl)) (pu_ix hlH ix)) (fun Q q => .inl ⟨_, rfl, q⟩)) (fun Q q => ⟨_, rfl, by rw [a3]; exact q⟩)) rfl (H2 := upd H p (.lst (Lst4 l a2 b ((c.val : Nat) : Int)))) rfl ?_
    have sq2 : SqL K (upd H p (.lst (Lst4 l a2 b ((c.val : Nat) : Int)))) p (Lst4 l a2 b ((c.val : Nat) : Int)) := SqL.of upd_same
    have ov : upd (upd H p (.lst (Lst4 l a2 b ((c.val : Nat) : Int)))) p (.lst ((Lst4 l a2 b ((c.val : Nat) : Int)).set 2 (.int ((b + 1 : Nat) : Int)))) = upd H p (.lst (Lst4 l a2 ((b + 1 : Nat) : Int) ((c.val : Nat) : Int))) := by
      funext x
      by_cases z : x = p
      · subst z; rw [upd_same, upd_same]; rfl
      · rw [upd_ne z, upd_ne z, upd_ne z]
    refine draw_set (w := .int ((b + 1 : Nat) : Int)) (p := p) (j := 2) rfl upd_same (pu_op (pu_op (pu_var s0) pu_c (pu_ix sq2 (v := .int (b : Int)) rfl)) pu_c (fun Q q => ⟨_, _, rfl, rfl, by simpa using q⟩)) rfl (H2 := upd H p (.lst (Lst4 l a2 ((b + 1 : Nat) : Int) ((c.val : Nat) : Int)))) ov ?_
    exact fin a2 (b + 1) c _ rfl
theorem ok__law_draw {P : Program} {w : World} {K : PySem.W.Frag} {mg : Str → Option Value} {base : Heap} {C aI f : Addr} {fd : FuncData} (X : Tx K mg C aI) (F : Fun K "_law_draw" "_law_draw" s__law_draw f fd) (hm : mg "_law_draw" = some (.ref f))  :
    Df P w K mg base 1 "_law_draw" ["_law_stream_here", "_law_many"] (sp__law_draw K C) :=
  df_mk hm F.kp (F.binds fun _ _ _ _ _ _ us hl => match us, hl with | [_, _], _ => rfl) (F.ok sc__law_draw spG_len fun cdv A outer s H vs Q E hr h => ⟨t__law_draw K C, pss_cons (ps_if (PW.pt (pw_and (pt_cmpR (op_eq) (pe_ix ix_seq (pv 0) (pe_int) (fun _ _ => rfl)) (pe_int) (nomark _)) (pw_and1 (pt_cmpR (op_lt) (pe_ix ix_seq (pv 0) (pe_int) (fun _ _ => rfl)) (pe_callB call_len_seq (by rfl) X.len (by decide +kernel) (pa_cons (pe_ix ix_seq (pv 0) (pe_int) (fun _ _ => rfl)) (pa_nil))) (nomark _))))) (pss_cons (ps_asg (pe_callB call_abs (by rfl) X.abs (by decide +kernel) (pa_cons (pe_callTy call_int1 (by rfl) X.int (by decide +kernel) (pa_cons (pe_ix ix_seq (pe_ix ix_seq (pv 0) (pe_int) (fun _ _ => rfl)) (pe_ix ix_seq (pv 0) (pe_int) (fun _ _ => rfl)) (fun _ _ => rfl)) (pa_nil))) (pa_nil))) (pg_sub (pv 0) (pe_int) set_list)) (pss_one (ps_asg (pe_op op_add (pe_ix ix_seq (pv 0) (pe_int) (fun _ _ => rfl)) (pe_int)) (pg_sub (pv 0) (pe_int) set_list)))) (pss_nil)) (pss_cons (ps_if (pt_cmpR (op_eq) (pe_ix ix_seq (pv 0) (pe_int) (fun _ _ => rfl)) (pe_int) (nomark _)) (pss_cons (ps_asg (pe_op op_mod (pe_callTy call_int1 (by rfl) X.int (by decide +kernel) (pa_cons (pe_op op_add (pe_mul (pe_ix ix_seq (pv 0) (pe_int) (fun _ _ => rfl)) (pe_int)) (pe_int)) (pa_nil))) (pe_int)) (pg_sub (pv 0) (pe_int) set_list)) (pss_one (ps_ret (pe_op op_mod (pe_callTy call_int1 (by rfl) X.int (by decide +kernel) (pa_cons (pe_op op_fdiv (pe_ix ix_seq (pv 0) (pe_int) (fun _ _ => rfl)) (pe_int)) (pa_nil))) (pv 1))))) (pss_nil)) (pss_cons (ps_set (i := 2) sc__law_draw.nd rfl (by first | exact Or.inl rfl | exact Or.inr rfl) (pe_op op_mod (pe_callTy call_int1 (by rfl) X.int (by decide +kernel) (pa_cons (pe_ix ix_seq (pv 0) (pe_int) (fun _ _ => rfl)) (pa_nil))) (pv 1))) (pss_cons (ps_asg (pe_op op_fdiv (pe_ix ix_seq (pv 0) (pe_int) (fun _ _ => rfl)) (pv 1)) (pg_sub (pv 0) (pe_int) set_list)) (pss_one (ps_ret (pv 2)))))), (c__law_draw K C h)⟩)
end Wk
end
section
set_option Elab.async false
set_option autoImplicit false
set_option linter.all false
set_option maxRecDepth 100000
set_option maxHeartbeats 4000000
/-! _law_inner, _law_body, _law_form, _law_closed, _law_near. -/
namespace Wk
open PySem L2 Dl Dx Lam
section
variable {K : PySem.W.Frag} {C : Addr} {S : List Sl}
theorem op_mono {r : R2} {x y : D} {P R : D → Prop} (h : OpD K C r x y P) (k : ∀ d, P d → R d) : OpD K C r x y R := fun Z B H vx vy Q sm str r1 r2 q => h Z B H vx vy Q sm str r1 r2 fun v d B' H' p => q v d B' H' (k d p)
/-- a drawn number -/
theorem e_draw {te : TE} {m : Nat} (h0 : S[0]? = some .st) (h : VlD K C te S (.int (m : Int))) (hm : 0 < m ∧ m < 1000000) : EvD K C (tCall (sp__law_draw K C) [] E0 (tCons (tVar 0) (tCons te tNil))) S (fun d => ∃ v : Nat, v < m ∧ d = .int (v : Int)) :=
  v_call m (a_stV h0 (a_consV h a_nil)) hm
theorem t_drawEq {te : TE} {m : Nat} {k : Int} (h0 : S[0]? = some .st) (h : VlD K C te S (.int (m : Int))) (hm : 0 < m ∧ m < 1000000) : TsD K C (tTest (tOp rEq (tCall (sp__law_draw K C) [] E0 (tCons (tVar 0) (tCons te tNil))) (tC (.int k)))) S (fun _ => True) :=
  t_test (e_op (e_draw h0 h hm) (fun x _ => e_int) fun x y ⟨v, _, ex⟩ ey => by subst ex ey; exact op_mono o_eqII fun d e => ⟨_, e, trivial⟩)
theorem t_drawGt {te : TE} {m : Nat} {k : Int} (h0 : S[0]? = some .st) (h : VlD K C te S (.int (m : Int))) (hm : 0 < m ∧ m < 1000000) : TsD K C (tTest (tOp rGtI (tCall (sp__law_draw K C) [] E0 (tCons (tVar 0) (tCons te tNil))) (tC (.int k)))) S (fun _ => True) :=
  t_test (e_op (e_draw h0 h hm) (fun x _ => e_int) fun x y ⟨v, _, ex⟩ ey => by subst ex ey; exact op_mono o_gt fun d e => ⟨_, e, trivial⟩)
/-- two tuples, one behind the other -/
theorem e_cat {ta tb : TE} {P R : D → Prop} (ha : EvD K C ta S (fun d => ∃ xs : List D, d = .tup xs ∧ P d)) (hb : EvD K C tb S (fun d => ∃ xs : List D, d = .tup xs ∧ R d)) (hs : ∀ xs ys, P (.tup xs) → R (.tup ys) → xs.length + ys.length ≤ 16777216) :
    EvD K C (tOp (rCatA K) ta tb) S (fun d => ∃ xs ys : List D, d = .tup (xs ++ ys) ∧ P (.tup xs) ∧ R (.tup ys)) :=
  e_op ha (fun _ _ => hb) fun x y ⟨xs, ex, hx⟩ ⟨ys, ey, hy⟩ => by subst ex ey; exact op_mono (o_cat (hs xs ys hx hy)) fun d e => ⟨xs, ys, e, hx, hy⟩
end
/-- a term of which this is known -/
def IsT (Φ : Tm → Prop) (d : D) : Prop := ∃ t, d = tmD t ∧ Φ t
theorem IsT.tup {Φ : Tm → Prop} {d : D} (h : IsT Φ d) : ∃ xs : List D, d = .tup xs ∧ IsT Φ d := by
  obtain ⟨t, e, p⟩ := h
  exact ⟨enc t, e, t, e, p⟩
theorem IsT.len {Φ : Tm → Prop} {xs : List D} (h : IsT Φ (.tup xs)) : ∃ t, xs = enc t ∧ Φ t := by
  obtain ⟨t, e, p⟩ := h
  cases e
  exact ⟨t, rfl, p⟩
section
variable {K : PySem.W.Frag} {C : Addr} {S : List Sl}
/-- ("lam",) + e -/
theorem e_lam {tb : TE} {Φ Ψ : Tm → Prop} (h : EvD K C tb S (IsT Φ)) (hz : ∀ t, Φ t → size t ≤ 100000) (k : ∀ t, Φ t → Ψ (.lam t)) : EvD K C (tOp (rCatA K) (tTup (tCons (tC (.str "lam")) tNil)) tb) S (IsT Ψ) :=
  (e_cat (P := fun d => d = .tup [.str "lam"]) (R := IsT Φ) ((v_tup (ds := [.str "lam"]) (a_consV e_str a_nil)).mono fun d e => ⟨_, e, e⟩) (h.mono fun d p => p.tup) (fun xs ys hx hy => by
    cases hx
    obtain ⟨t, rfl, p⟩ := hy.len
    have := hz t p
    rw [enc_len]; simp; omega)).mono fun d ⟨xs, ys, e, hx, hy⟩ => by
      cases hx
      obtain ⟨t, rfl, p⟩ := hy.len
      exact ⟨.lam t, by rw [e]; rfl, k t p⟩
/-- (("app",) + e) + f -/
theorem e_app {ta tb : TE} {Φ Ψ Ω : Tm → Prop} (h : EvD K C ta S (IsT Φ)) (h2 : EvD K C tb S (IsT Ψ)) (hz : ∀ t, Φ t → size t ≤ 100000) (hz2 : ∀ t, Ψ t → size t ≤ 100000) (k : ∀ t u, Φ t → Ψ u → Ω (.app t u)) :
    EvD K C (tOp (rCatA K) (tOp (rCatA K) (tTup (tCons (tC (.str "app")) tNil)) ta) tb) S (IsT Ω) := by
  have h1 : EvD K C (tOp (rCatA K) (tTup (tCons (tC (.str "app")) tNil)) ta) S (fun d => ∃ t, d = .tup (.str "app" :: enc t) ∧ Φ t) :=
    (e_cat (P := fun d => d = .tup [.str "app"]) (R := IsT Φ) ((v_tup (ds := [.str "app"]) (a_consV e_str a_nil)).mono fun d e => ⟨_, e, e⟩) (h.mono fun d p => p.tup) (fun xs ys hx hy => by
      cases hx
      obtain ⟨t, rfl, p⟩ := hy.len
      have := hz t p
      rw [enc_len]; simp; omega)).mono fun d ⟨xs, ys, e, hx, hy⟩ => by
        cases hx
        obtain ⟨t, rfl, p⟩ := hy.len
        exact ⟨t, by rw [e]; rfl, p⟩
  refine (e_cat (P := fun d => ∃ t, d = .tup (.str "app" :: enc t) ∧ Φ t) (R := IsT Ψ) (h1.mono fun d ⟨t, e, p⟩ => ⟨_, e, t, e, p⟩) (h2.mono fun d p => p.tup) (fun xs ys hx hy => ?_)).mono fun d ⟨xs, ys, e, hx, hy⟩ => ?_
  · obtain ⟨t, e1, p1⟩ := hx
    cases e1
    obtain ⟨u, rfl, p⟩ := hy.len
    have := hz t p1
    have := hz2 u p
    rw [List.length_cons, enc_len, enc_len]; omega
  · obtain ⟨t, e1, p1⟩ := hx
    cases e1
    obtain ⟨u, rfl, p⟩ := hy.len
    exact ⟨.app t u, by rw [e]; rfl, k t u p1 p⟩
end
section
variable {K : PySem.W.Frag} {C : Addr} {S : List Sl}
theorem e_tup1 {te : TE} {P R : D → Prop} (h : EvD K C te S P) (k : ∀ d, P d → R (.tup [d])) : EvD K C (tTup (tCons te tNil)) S R :=
  (e_tup (P := fun ss => ∃ d, ss = [.im d] ∧ P d) ((a_cons h a_nil).mono fun ss ⟨d, r, e, hd, hr⟩ => by subst hr; exact ⟨[d], e, ⟨d, e, hd⟩, by simp⟩)).mono fun x ⟨ds, e, d, e2, hd⟩ => by
    cases ds with
    | nil => cases e2
    | cons y ys =>
      cases ys with
      | nil => cases e2; rw [e]; exact k _ hd
      | cons z zs => cases e2
/-- (("app", "lam") + e) + f -/
theorem e_applam {ta tb : TE} {Φ Ψ Ω : Tm → Prop} (h : EvD K C ta S (IsT Φ)) (h2 : EvD K C tb S (IsT Ψ)) (hz : ∀ t, Φ t → size t ≤ 100000) (hz2 : ∀ t, Ψ t → size t ≤ 100000) (k : ∀ t u, Φ t → Ψ u → Ω (.app (.lam t) u)) :
    EvD K C (tOp (rCatA K) (tOp (rCatA K) (tTup (tCons (tC (.str "app")) (tCons (tC (.str "lam")) tNil))) ta) tb) S (IsT Ω) := by
  have h1 : EvD K C (tOp (rCatA K) (tTup (tCons (tC (.str "app")) (tCons (tC (.str "lam")) tNil))) ta) S (fun d => ∃ t, d = .tup (.str "app" :: .str "lam" :: enc t) ∧ Φ t) :=
    (e_cat (P := fun d => d = .tup [.str "app", .str "lam"]) (R := IsT Φ) ((v_tup (ds := [.str "app", .str "lam"]) (a_consV e_str (a_consV e_str a_nil))).mono fun d e => ⟨_, e, e⟩) (h.mono fun d p => p.tup) (fun xs ys hx hy => by
      cases hx
      obtain ⟨t, rfl, p⟩ := hy.len
      have := hz t p
      rw [enc_len]; simp; omega)).mono fun d ⟨xs, ys, e, hx, hy⟩ => by
        cases hx
        obtain ⟨t, rfl, p⟩ := hy.len
        exact ⟨t, by rw [e]; rfl, p⟩
  refine (e_cat (P := fun d => ∃ t, d = .tup (.str "app" :: .str "lam" :: enc t) ∧ Φ t) (R := IsT Ψ) (h1.mono fun d ⟨t, e, p⟩ => ⟨_, e, t, e, p⟩) (h2.mono fun d p => p.tup) (fun xs ys hx hy => ?_)).mono fun d ⟨xs, ys, e, hx, hy⟩ => ?_
  · obtain ⟨t, e1, p1⟩ := hx
    cases e1
    obtain ⟨u, rfl, p⟩ := hy.len
    have := hz t p1
    have := hz2 u p
    rw [List.length_cons, List.length_cons, enc_len, enc_len]; omega
  · obtain ⟨t, e1, p1⟩ := hx
    cases e1
    obtain ⟨u, rfl, p⟩ := hy.len
    exact ⟨.app (.lam t) u, by rw [e]; rfl, k t u p1 p⟩
/-- ("lam",) * (1 + a draw) + e -/
theorem e_lamsD {tb : TE} {Φ Ψ : Tm → Prop} (h : EvD K C tb S (IsT Φ)) (hz : ∀ t, Φ t → size t ≤ 100000) (k : ∀ n t, 1 ≤ n → n ≤ 3 → Φ t → Ψ (lams n t)) (h0 : S[0]? = some .st := by rfl) :
    EvD K C (tOp (rCatA K) (tOp (rRepA K) (tTup (tCons (tC (.str "lam")) tNil)) (tOp rAddI (tC (.int 1)) (tCall (sp__law_draw K C) [] E0 (tCons (tVar 0) (tCons (tC (.int 3)) tNil))))) tb) S (IsT Ψ) := by
  have h1 : EvD K C (tOp (rRepA K) (tTup (tCons (tC (.str "lam")) tNil)) (tOp rAddI (tC (.int 1)) (tCall (sp__law_draw K C) [] E0 (tCons (tVar 0) (tCons (tC (.int 3)) tNil))))) S (fun d => ∃ n : Nat, 1 ≤ n ∧ n ≤ 3 ∧ d = .tup (List.replicate n (D.str "lam"))) := by
    refine e_op (v_tup (ds := [.str "lam"]) (a_consV e_str a_nil)) (fun x _ => (e_op e_int (fun _ _ => e_draw (m := 3) h0 e_int (by decide)) (R := fun d => ∃ n : Nat, 1 ≤ n ∧ n ≤ 3 ∧ d = .int (n : Int)) fun x y ex ⟨v, hv, ey⟩ => ?_)) fun x y ex ⟨n, n1, n3, ey⟩ => ?_
    · subst ex ey
      exact op_mono o_add fun d e => ⟨v + 1, by omega, by omega, by rw [e]; congr 1; omega⟩
    · subst ex ey
      refine op_mono (o_rep (by simp) (by omega) (by omega) (by simp)) fun d e => ⟨n, n1, n3, ?_⟩
      rw [e, flat_one, Int.toNat_natCast]
  refine (e_cat (P := fun d => ∃ n : Nat, 1 ≤ n ∧ n ≤ 3 ∧ d = .tup (List.replicate n (D.str "lam"))) (R := IsT Φ) (h1.mono fun d ⟨n, n1, n3, e⟩ => ⟨_, e, n, n1, n3, e⟩) (h.mono fun d p => p.tup) (fun xs ys hx hy => ?_)).mono fun d ⟨xs, ys, e, hx, hy⟩ => ?_
  · obtain ⟨n, n1, n3, e1⟩ := hx
    cases e1
    obtain ⟨u, rfl, p⟩ := hy.len
    have := hz u p
    rw [List.length_replicate, enc_len]; omega
  · obtain ⟨n, n1, n3, e1⟩ := hx
    cases e1
    obtain ⟨u, rfl, p⟩ := hy.len
    exact ⟨lams n u, by rw [e, tmD, enc_lams], k n u n1 n3 p⟩
end
abbrev aSt1 (s : Nat) : List Sl := [.st, .im (.int (s : Int))]
abbrev fIn (s : Nat) (t : Tm) : Prop := cl 1 t ∧ size t ≤ 2 * s + 1
def sp__law_inner (K : PySem.W.Frag) (C : Addr) (n : Nat) : Sp := spG K C 2 aSt1 (fun s => s < n ∧ n ≤ 100) (fun s d => IsT (fIn s) d)
abbrev s__law_inner : Stmt := topS 65
abbrev n__law_inner : List Str := ["_law_stream_here", "_law_size", "_law_half"]
theorem sc__law_inner : FnScope n__law_inner ["_law_stream_here", "_law_size"] (defScope s__law_inner) := ⟨rfl, rfl, rfl, by decide +kernel, rfl, by decide +kernel, by decide +kernel⟩
-- calls: ['_law_draw', '_law_inner']; level 14; slots: 0:_law_stream_here 1:_law_size 2:_law_half
def t__law_inner (K : PySem.W.Frag) (C : Addr) (n : Nat) : TS := tSeq (tIfS (tTest (tOp (rLtI) (tVar 1) (tC (.int 2)))) (tRet (tTup (tCons (tC (.int 0)) (tNil)))) (tNext)) (tSeq (tIfS (tTest (tOp (rEq) (tCall (sp__law_draw K C) [] E0 (tCons (tVar 0) (tCons (tC (.int 3)) (tNil)))) (tC (.int 0)))) (tRet (tOp (rCatA K) (tTup (tCons (tC (.str "lam")) (tNil))) (tCall (sp__law_inner K C n) [] E0 (tCons (tVar 0) (tCons (tOp (rSubI) (tVar 1) (tC (.int 1))) (tNil)))))) (tNext)) (tSeq (tAsg (tCall (sp__law_draw K C) [] E0 (tCons (tVar 0) (tCons (tVar 1) (tNil)))) (gName 2)) (tRet (tOp (rCatA K) (tOp (rCatA K) (tTup (tCons (tC (.str "app")) (tNil))) (tCall (sp__law_inner K C n) [] E0 (tCons (tVar 0) (tCons (tVar 2) (tNil))))) (tCall (sp__law_inner K C n) [] E0 (tCons (tVar 0) (tCons (tOp (rSubI) (tOp (rSubI) (tVar 1) (tC (.int 1))) (tVar 2)) (tNil))))))))
theorem c__law_inner (K : PySem.W.Frag) (C : Addr) (n : Nat) (s : Nat) (hp : s < n + 1 ∧ n + 1 ≤ 100) (_ : (aSt1 s).length = 2) :
    CmD K C (t__law_inner K C n) (aSt1 s ++ List.replicate (n__law_inner.length - 2) .un) (fun _ => IsT (fIn s) .non) (fun d => IsT (fIn s) d) no no := by
  obtain ⟨h1, h2⟩ := hp
  refine q_ways (t_testV (v_op (e_var rfl) e_int o_lt)) (fun hb => q_ret (v_tup (ds := [.int 0]) (a_consV e_int a_nil)) ⟨.var 0, rfl, by show 0 < 1; decide, by simp only [size]; omega⟩) (fun hb => q_next ?_)
  have h3 : ¬ (s : Int) < 2 := of_decide_eq_false hb.symm
  refine q_ways (t_drawEq (m := 3) rfl e_int (by decide)) (fun _ => q_retE (e_lam (Φ := fIn (s - 1)) (v_call (s - 1) (a_is (a_stV rfl (a_consV (v_op (e_var rfl) e_int o_sub) a_nil)) (by rw [show (s : Int) - 1 = ((s - 1 : Nat) : Int) by omega])) ⟨by omega, by omega⟩) (fun t ht => by have := ht.2; omega) (fun t ht => ⟨cl_mono (t := t) ht.1 (by omega), by have := ht.2; simp only [size]; omega⟩)) fun d p => p) (fun _ => q_next ?_)
  refine q_setE (e_draw (m := s) rfl (e_var rfl) ⟨by omega, by omega⟩) ?_
  rintro d ⟨v, hv, rfl⟩
  refine c_ret (e_app (Φ := fIn v) (Ψ := fIn (s - 1 - v)) (v_call v (a_stV rfl (a_consV (e_var rfl) a_nil)) ⟨by omega, by omega⟩) (v_call (s - 1 - v) (a_is (a_stV rfl (a_consV (v_op (v_op (e_var rfl) e_int o_sub) (e_var rfl) o_sub) a_nil)) (by rw [show (s : Int) - 1 - (v : Int) = ((s - 1 - v : Nat) : Int) by omega])) ⟨by omega, by omega⟩)
    (fun t ht => by have := ht.2; omega) (fun t ht => by have := ht.2; omega) (fun t u ht hu => ⟨⟨ht.1, hu.1⟩, by have := ht.2; have := hu.2; simp only [size]; omega⟩)) fun d p => p
theorem ok__law_inner {P : Program} {w : World} {K : PySem.W.Frag} {mg : Str → Option Value} {base : Heap} {C aI f : Addr} {fd : FuncData} {k n : Nat} (X : Tx K mg C aI) (F : Fun K "_law_inner" "_law_inner" s__law_inner f fd) (hm : mg "_law_inner" = some (.ref f)) (hk : 1 ≤ k) (D__law_draw : Df P w K mg base 1 "_law_draw" ["_law_stream_here", "_law_many"] (sp__law_draw K C)) (D__law_inner : Df P w K mg base k "_law_inner" ["_law_stream_here", "_law_size"] (sp__law_inner K C n)) :
    Df P w K mg base (k + 1) "_law_inner" ["_law_stream_here", "_law_size"] (sp__law_inner K C (n + 1)) :=
  df_mk hm F.kp (F.binds fun _ _ _ _ _ _ us hl => match us, hl with | [_, _], _ => rfl) (F.ok sc__law_inner spG_len fun cdv A outer s H vs Q E hr h => ⟨t__law_inner K C n, pss_cons (ps_if (pt_cmpR (op_lt) (pv 1) (pe_int) (nomark _)) (pss_one (ps_ret (pe_tup (pa_cons (pe_int) (pa_nil))))) (pss_nil)) (pss_cons (ps_if (pt_cmpR (op_eq) (pe_own D__law_draw (hr.mono (by omega)) (by rfl) (pa_cons (pv 0) (pa_cons (pe_int) (pa_nil)))) (pe_int) (nomark _)) (pss_one (ps_ret (pe_op op_catA (pe_tup (pa_cons (pe_str) (pa_nil))) (pe_own D__law_inner (hr.mono (by omega)) (by rfl) (pa_cons (pv 0) (pa_cons (pe_op op_sub (pv 1) (pe_int)) (pa_nil))))))) (pss_nil)) (pss_cons (ps_set (i := 2) sc__law_inner.nd rfl (by first | exact Or.inl rfl | exact Or.inr rfl) (pe_own D__law_draw (hr.mono (by omega)) (by rfl) (pa_cons (pv 0) (pa_cons (pv 1) (pa_nil))))) (pss_one (ps_ret (pe_op op_catA (pe_op op_catA (pe_tup (pa_cons (pe_str) (pa_nil))) (pe_own D__law_inner (hr.mono (by omega)) (by rfl) (pa_cons (pv 0) (pa_cons (pv 2) (pa_nil))))) (pe_own D__law_inner (hr.mono (by omega)) (by rfl) (pa_cons (pv 0) (pa_cons (pe_op op_sub (pe_op op_sub (pv 1) (pe_int)) (pv 2)) (pa_nil))))))))), run_of (E := E) (c__law_inner K C n) h⟩)
structure GB where
  w : Nat
  s : Nat
abbrev aB (g : GB) : List Sl := [.st, .im (.int (g.w : Int)), .im (.int (g.s : Int))]
abbrev fB (w s : Nat) (t : Tm) : Prop := cl w t ∧ size t ≤ 4 * s + 2
def sp__law_body (K : PySem.W.Frag) (C : Addr) (n : Nat) : Sp := spG K C 3 aB (fun g => g.s < n ∧ n ≤ 13 ∧ g.w + g.s ≤ 1000) (fun g d => IsT (fB g.w g.s) d)
abbrev s__law_body : Stmt := topS 66
abbrev n__law_body : List Str := ["_law_stream_here", "_law_widest", "_law_size", "_law_pick", "_law_half"]
theorem sc__law_body : FnScope n__law_body ["_law_stream_here", "_law_widest", "_law_size"] (defScope s__law_body) := ⟨rfl, rfl, rfl, by decide +kernel, rfl, by decide +kernel, by decide +kernel⟩
-- calls: ['_law_body', '_law_draw', '_law_inner']; level 28; slots: 0:_law_stream_here 1:_law_widest 2:_law_size 3:_law_pick 4:_law_half
def t__law_body (K : PySem.W.Frag) (C : Addr) (n : Nat) : TS := tSeq (tIfS (tTest (tOp (rLtI) (tVar 2) (tC (.int 2)))) (tSeq (tIfS (tTest (tOp (rEq) (tVar 1) (tC (.int 0)))) (tRet (tTup (tCons (tC (.str "lam")) (tCons (tC (.int 0)) (tNil))))) (tNext)) (tRet (tTup (tCons (tCall (sp__law_draw K C) [] E0 (tCons (tVar 0) (tCons (tVar 1) (tNil)))) (tNil))))) (tNext)) (tSeq (tAsg (tCall (sp__law_draw K C) [] E0 (tCons (tVar 0) (tCons (tC (.int 6)) (tNil)))) (gName 3)) (tSeq (tIfS (tTest (tOp (rLtI) (tVar 3) (tC (.int 2)))) (tRet (tOp (rCatA K) (tTup (tCons (tC (.str "lam")) (tNil))) (tCall (sp__law_body K C n) [] E0 (tCons (tVar 0) (tCons (tOp (rAddI) (tVar 1) (tC (.int 1))) (tCons (tOp (rSubI) (tVar 2) (tC (.int 1))) (tNil))))))) (tNext)) (tSeq (tAsg (tCall (sp__law_draw K C) [] E0 (tCons (tVar 0) (tCons (tVar 2) (tNil)))) (gName 4)) (tSeq (tIfS (tTest (tOp (rLtI) (tVar 3) (tC (.int 4)))) (tRet (tOp (rCatA K) (tOp (rCatA K) (tTup (tCons (tC (.str "app")) (tNil))) (tCall (sp__law_body K C n) [] E0 (tCons (tVar 0) (tCons (tVar 1) (tCons (tVar 4) (tNil)))))) (tCall (sp__law_body K C n) [] E0 (tCons (tVar 0) (tCons (tVar 1) (tCons (tOp (rSubI) (tOp (rSubI) (tVar 2) (tC (.int 1))) (tVar 4)) (tNil))))))) (tNext)) (tSeq (tIfS (tTest (tOp (rEq) (tVar 3) (tC (.int 4)))) (tRet (tOp (rCatA K) (tOp (rCatA K) (tTup (tCons (tC (.str "app")) (tCons (tC (.str "lam")) (tNil)))) (tCall (sp__law_body K C n) [] E0 (tCons (tVar 0) (tCons (tOp (rAddI) (tVar 1) (tC (.int 1))) (tCons (tVar 4) (tNil)))))) (tCall (sp__law_body K C n) [] E0 (tCons (tVar 0) (tCons (tVar 1) (tCons (tOp (rSubI) (tOp (rSubI) (tVar 2) (tC (.int 1))) (tVar 4)) (tNil))))))) (tNext)) (tRet (tOp (rCatA K) (tOp (rRepA K) (tTup (tCons (tC (.str "lam")) (tNil))) (tOp (rAddI) (tC (.int 1)) (tCall (sp__law_draw K C) [] E0 (tCons (tVar 0) (tCons (tC (.int 3)) (tNil)))))) (tCall (sp__law_inner K C 13) [] E0 (tCons (tVar 0) (tCons (tVar 2) (tNil)))))))))))
theorem size_repl_lam (k : Nat) (t : Tm) : enc (lams k t) = List.replicate k (D.str "lam") ++ enc t := enc_lams k t
theorem c__law_body (K : PySem.W.Frag) (C : Addr) (n : Nat) (g : GB) (hp : g.s < n + 1 ∧ n + 1 ≤ 13 ∧ g.w + g.s ≤ 1000) (_ : (aB g).length = 3) :
    CmD K C (t__law_body K C n) (aB g ++ List.replicate (n__law_body.length - 3) .un) (fun _ => IsT (fB g.w g.s) .non) (fun d => IsT (fB g.w g.s) d) no no := by
  obtain ⟨w, s⟩ := g
  obtain ⟨h1, h2, h2'⟩ : s < n + 1 ∧ n + 1 ≤ 13 ∧ w + s ≤ 1000 := hp
  show CmD K C _ _ (fun _ => IsT (fB w s) .non) (fun d => IsT (fB w s) d) _ _
  refine q_ways (t_testV (v_op (e_var rfl) e_int o_lt)) (fun hb => ?_) (fun hb => q_next ?_)
  · refine q_seq (q_ways (t_testV (v_op (e_var rfl) e_int o_eqII)) (fun hb => q_ret (v_tup (ds := [.str "lam", .int 0]) (a_consV e_str (a_consV e_int a_nil))) ⟨.lam (.var 0), rfl, by show 0 < w + 1; omega, by simp only [size]; omega⟩) (fun hb => q_next ?_))
    have hw : ¬ (w : Int) = 0 := of_decide_eq_false hb.symm
    refine q_retE (P := fun d => ∃ v : Nat, v < w ∧ d = .tup [.int (v : Int)]) ?_ fun d ⟨v, hv, e⟩ => ⟨.var v, e, hv, by simp only [size]; omega⟩
    exact e_tup1 (e_draw (m := w) rfl (e_var rfl) ⟨by omega, by omega⟩) fun d ⟨v, hv, e⟩ => ⟨v, hv, by rw [e]⟩
  have h3 : ¬ (s : Int) < 2 := of_decide_eq_false hb.symm
  refine q_setE (e_draw (m := 6) rfl e_int (by decide)) ?_
  rintro d ⟨pick, hpick, rfl⟩
  refine q_ways (t_testV (v_op (e_var rfl) e_int o_lt)) (fun _ => q_retE (e_lam (Φ := fB (w + 1) (s - 1)) (v_call (⟨w + 1, s - 1⟩ : GB) (a_is (a_stV rfl (a_consV (v_op (e_var rfl) e_int o_add) (a_consV (v_op (e_var rfl) e_int o_sub) a_nil))) (by simp only [aB]; rw [show (s : Int) - 1 = ((s - 1 : Nat) : Int) by omega, show (w : Int) + 1 = ((w + 1 : Nat) : Int) by omega])) ⟨by show s - 1 < n; omega, by omega, by show w + 1 + (s - 1) ≤ 1000; omega⟩) (fun t ht => by have := ht.2; omega) (fun t ht => ⟨ht.1, by have := ht.2; simp only [size]; omega⟩)) fun d p => p) (fun _ => q_next ?_)
  refine q_setE (e_draw (m := s) rfl (e_var rfl) ⟨by omega, by omega⟩) ?_
  rintro d ⟨v, hv, rfl⟩
  have eS : (s : Int) - 1 - (v : Int) = ((s - 1 - v : Nat) : Int) := by omega
  have big : ∀ {w s : Nat} (t : Tm), s ≤ 100 → fB w s t → size t ≤ 100000 := fun t hs ht => by have := ht.2; omega
  refine q_ways (t_testV (v_op (e_var rfl) e_int o_lt)) (fun _ => q_retE (e_app (Φ := fB w v) (Ψ := fB w (s - 1 - v)) (v_call (⟨w, v⟩ : GB) (a_stV rfl (a_consV (e_var rfl) (a_consV (e_var rfl) a_nil))) ⟨by show v < n; omega, by omega, by show w + v ≤ 1000; omega⟩)
    (v_call (⟨w, s - 1 - v⟩ : GB) (a_is (a_stV rfl (a_consV (e_var rfl) (a_consV (v_op (v_op (e_var rfl) e_int o_sub) (e_var rfl) o_sub) a_nil))) (by simp only [aB]; rw [eS])) ⟨by show s - 1 - v < n; omega, by omega, by show w + (s - 1 - v) ≤ 1000; omega⟩) (fun t ht => big t (by omega) ht) (fun t ht => big t (by omega) ht) (fun t u ht hu => ⟨⟨ht.1, hu.1⟩, by have := ht.2; have := hu.2; simp only [size]; omega⟩)) fun d p => p) (fun _ => q_next ?_)
  refine q_ways (t_testV (v_op (e_var rfl) e_int o_eqII)) (fun _ => q_retE (e_applam (Φ := fB (w + 1) v) (Ψ := fB w (s - 1 - v)) (v_call (⟨w + 1, v⟩ : GB) (a_is (a_stV rfl (a_consV (v_op (e_var rfl) e_int o_add) (a_consV (e_var rfl) a_nil))) (by simp only [aB]; rw [show (w : Int) + 1 = ((w + 1 : Nat) : Int) by omega])) ⟨by show v < n; omega, by omega, by show w + 1 + v ≤ 1000; omega⟩)
    (v_call (⟨w, s - 1 - v⟩ : GB) (a_is (a_stV rfl (a_consV (e_var rfl) (a_consV (v_op (v_op (e_var rfl) e_int o_sub) (e_var rfl) o_sub) a_nil))) (by simp only [aB]; rw [eS])) ⟨by show s - 1 - v < n; omega, by omega, by show w + (s - 1 - v) ≤ 1000; omega⟩) (fun t ht => big t (by omega) ht) (fun t ht => big t (by omega) ht) (fun t u ht hu => ⟨⟨ht.1, hu.1⟩, by have := ht.2; have := hu.2; simp only [size]; omega⟩)) fun d p => p) (fun _ => q_next ?_)
  refine c_ret (e_lamsD (Φ := fIn s) (v_call s (a_stV rfl (a_consV (e_var rfl) a_nil)) ⟨by omega, by omega⟩) (fun t ht => by have := ht.2; omega) (fun k t hk1 hk3 ht => ⟨cl_lams.mpr (cl_mono ht.1 (by omega)), by rw [size_lams]; have := ht.2; omega⟩)) fun d p => p
theorem ok__law_body {P : Program} {w : World} {K : PySem.W.Frag} {mg : Str → Option Value} {base : Heap} {C aI f : Addr} {fd : FuncData} {k n : Nat} (X : Tx K mg C aI) (F : Fun K "_law_body" "_law_body" s__law_body f fd) (hm : mg "_law_body" = some (.ref f)) (hk : 14 ≤ k) (D__law_body : Df P w K mg base k "_law_body" ["_law_stream_here", "_law_widest", "_law_size"] (sp__law_body K C n)) (D__law_draw : Df P w K mg base 1 "_law_draw" ["_law_stream_here", "_law_many"] (sp__law_draw K C)) (D__law_inner : Df P w K mg base 14 "_law_inner" ["_law_stream_here", "_law_size"] (sp__law_inner K C 13)) :
    Df P w K mg base (k + 1) "_law_body" ["_law_stream_here", "_law_widest", "_law_size"] (sp__law_body K C (n + 1)) :=
  df_mk hm F.kp (F.binds fun _ _ _ _ _ _ us hl => match us, hl with | [_, _, _], _ => rfl) (F.ok sc__law_body spG_len fun cdv A outer s H vs Q E hr h => ⟨t__law_body K C n, pss_cons (ps_if (pt_cmpR (op_lt) (pv 2) (pe_int) (nomark _)) (pss_cons (ps_if (pt_cmpR (op_eq) (pv 1) (pe_int) (nomark _)) (pss_one (ps_ret (pe_tup (pa_cons (pe_str) (pa_cons (pe_int) (pa_nil)))))) (pss_nil)) (pss_one (ps_ret (pe_tup (pa_cons (pe_own D__law_draw (hr.mono (by omega)) (by rfl) (pa_cons (pv 0) (pa_cons (pv 1) (pa_nil)))) (pa_nil)))))) (pss_nil)) (pss_cons (ps_set (i := 3) sc__law_body.nd rfl (by first | exact Or.inl rfl | exact Or.inr rfl) (pe_own D__law_draw (hr.mono (by omega)) (by rfl) (pa_cons (pv 0) (pa_cons (pe_int) (pa_nil))))) (pss_cons (ps_if (pt_cmpR (op_lt) (pv 3) (pe_int) (nomark _)) (pss_one (ps_ret (pe_op op_catA (pe_tup (pa_cons (pe_str) (pa_nil))) (pe_own D__law_body (hr.mono (by omega)) (by rfl) (pa_cons (pv 0) (pa_cons (pe_op op_add (pv 1) (pe_int)) (pa_cons (pe_op op_sub (pv 2) (pe_int)) (pa_nil)))))))) (pss_nil)) (pss_cons (ps_set (i := 4) sc__law_body.nd rfl (by first | exact Or.inl rfl | exact Or.inr rfl) (pe_own D__law_draw (hr.mono (by omega)) (by rfl) (pa_cons (pv 0) (pa_cons (pv 2) (pa_nil))))) (pss_cons (ps_if (pt_cmpR (op_lt) (pv 3) (pe_int) (nomark _)) (pss_one (ps_ret (pe_op op_catA (pe_op op_catA (pe_tup (pa_cons (pe_str) (pa_nil))) (pe_own D__law_body (hr.mono (by omega)) (by rfl) (pa_cons (pv 0) (pa_cons (pv 1) (pa_cons (pv 4) (pa_nil)))))) (pe_own D__law_body (hr.mono (by omega)) (by rfl) (pa_cons (pv 0) (pa_cons (pv 1) (pa_cons (pe_op op_sub (pe_op op_sub (pv 2) (pe_int)) (pv 4)) (pa_nil)))))))) (pss_nil)) (pss_cons (ps_if (pt_cmpR (op_eq) (pv 3) (pe_int) (nomark _)) (pss_one (ps_ret (pe_op op_catA (pe_op op_catA (pe_tup (pa_cons (pe_str) (pa_cons (pe_str) (pa_nil)))) (pe_own D__law_body (hr.mono (by omega)) (by rfl) (pa_cons (pv 0) (pa_cons (pe_op op_add (pv 1) (pe_int)) (pa_cons (pv 4) (pa_nil)))))) (pe_own D__law_body (hr.mono (by omega)) (by rfl) (pa_cons (pv 0) (pa_cons (pv 1) (pa_cons (pe_op op_sub (pe_op op_sub (pv 2) (pe_int)) (pv 4)) (pa_nil)))))))) (pss_nil)) (pss_one (ps_ret (pe_op op_catA (pe_op op_repA (pe_tup (pa_cons (pe_str) (pa_nil))) (pe_op op_add (pe_int) (pe_own D__law_draw (hr.mono (by omega)) (by rfl) (pa_cons (pv 0) (pa_cons (pe_int) (pa_nil)))))) (pe_own D__law_inner (hr.mono (by omega)) (by rfl) (pa_cons (pv 0) (pa_cons (pv 2) (pa_nil)))))))))))), run_of (E := E) (c__law_body K C n) h⟩)
end Wk
end
section
set_option Elab.async false
set_option autoImplicit false
set_option linter.all false
set_option maxRecDepth 100000
set_option maxHeartbeats 4000000
/-! _law_form, _law_closed, _law_near. -/
namespace Wk
open PySem L2 Dl Dx Lam
abbrev fF (w s : Nat) (t : Tm) : Prop := cl w t ∧ nf t = true ∧ size t ≤ 2 * s + 1
def sp__law_form (K : PySem.W.Frag) (C : Addr) (n : Nat) : Sp := spG K C 3 aB (fun g => g.s < n ∧ n ≤ 13 ∧ g.w + g.s ≤ 1000 ∧ 1 ≤ g.s) (fun g d => IsT (fF g.w g.s) d)
abbrev s__law_form : Stmt := topS 71
abbrev n__law_form : List Str := ["_law_stream_here", "_law_widest", "_law_size", "_law_lams", "_law_nodes", "_law_part"]
theorem sc__law_form : FnScope n__law_form ["_law_stream_here", "_law_widest", "_law_size"] (defScope s__law_form) := ⟨rfl, rfl, rfl, by decide +kernel, rfl, by decide +kernel, by decide +kernel⟩
-- calls: ['_law_draw', '_law_form']; level 15; slots: 0:_law_stream_here 1:_law_widest 2:_law_size 3:_law_lams 4:_law_nodes 5:_law_part
def t__law_form (K : PySem.W.Frag) (C : Addr) (n : Nat) : TS := tSeq (tAsg (tTup (tNil)) (gName 3)) (tSeq (tWhile (tOr (tTest (tOp (rEq) (tVar 1) (tC (.int 0)))) (tAnd (tTest (tOp (rGtI) (tVar 2) (tC (.int 2)))) (tTest (tOp (rEq) (tCall (sp__law_draw K C) [] E0 (tCons (tVar 0) (tCons (tC (.int 2)) (tNil)))) (tC (.int 0)))))) (tSeq (tAsg (tOp (rCatA K) (tVar 3) (tTup (tCons (tC (.str "lam")) (tNil)))) (gName 3)) (tSeq (tAsg (tOp (rAddI) (tVar 1) (tC (.int 1))) (gName 1)) (tAsg (tOp (rSubI) (tVar 2) (tC (.int 1))) (gName 2))))) (tSeq (tAsg (tTup (tCons (tCall (sp__law_draw K C) [] E0 (tCons (tVar 0) (tCons (tVar 1) (tNil)))) (tNil))) (gName 4)) (tSeq (tWhile (tAnd (tTest (tOp (rGtI) (tVar 2) (tC (.int 2)))) (tTest (tOp (rGtI) (tCall (sp__law_draw K C) [] E0 (tCons (tVar 0) (tCons (tC (.int 3)) (tNil)))) (tC (.int 0))))) (tSeq (tAsg (tOp (rAddI) (tC (.int 1)) (tCall (sp__law_draw K C) [] E0 (tCons (tVar 0) (tCons (tOp (rSubI) (tVar 2) (tC (.int 1))) (tNil))))) (gName 5)) (tSeq (tAsg (tOp (rCatA K) (tOp (rCatA K) (tTup (tCons (tC (.str "app")) (tNil))) (tVar 4)) (tCall (sp__law_form K C n) [] E0 (tCons (tVar 0) (tCons (tVar 1) (tCons (tVar 5) (tNil)))))) (gName 4)) (tAsg (tOp (rSubI) (tOp (rSubI) (tVar 2) (tVar 5)) (tC (.int 1))) (gName 2))))) (tRet (tOp (rCatA K) (tVar 3) (tVar 4))))))
theorem c__law_form (K : PySem.W.Frag) (C : Addr) (n : Nat) (g : GB) (hp : g.s < n + 1 ∧ n + 1 ≤ 13 ∧ g.w + g.s ≤ 1000 ∧ 1 ≤ g.s) (_ : (aB g).length = 3) :
    CmD K C (t__law_form K C n) (aB g ++ List.replicate (n__law_form.length - 3) .un) (fun _ => IsT (fF g.w g.s) .non) (fun d => IsT (fF g.w g.s) d) no no := by
  obtain ⟨w, s⟩ := g
  obtain ⟨h1, h2, h3, h4⟩ : s < n + 1 ∧ n + 1 ≤ 13 ∧ w + s ≤ 1000 ∧ 1 ≤ s := hp
  show CmD K C _ [.st, .im (.int (w : Int)), .im (.int (s : Int)), .un, .un, .un] (fun _ => IsT (fF w s) .non) (fun d => IsT (fF w s) d) _ _
  refine q_set (v_tup (ds := []) a_nil) ?_
  refine q_while (fun m S1 => ∃ (j z : Nat), j + z = s ∧ m = z ∧ S1 = [.st, .im (.int ((w + j : Nat) : Int)), .im (.int (z : Int)), .im (.tup (List.replicate j (D.str "lam"))), .un, .un]) no s ⟨0, s, by omega, rfl, rfl⟩ ?_ (fun _ h => h.elim)
  rintro m S1 ⟨j, z, hjz, em, rfl⟩
  refine ⟨fun b => (b = true → w + j = 0 ∨ 2 < z) ∧ (b = false → w + j ≠ 0), ?_, fun hb => ?_, fun hb => ?_⟩
  · refine t_or (P := fun b => b = decide (((w + j : Nat) : Int) = 0)) (t_testV (v_op (e_var rfl) e_int o_eqII)) (fun hb => ?_) (fun hb => ⟨fun _ => .inl (by have := of_decide_eq_true hb.symm; omega), (fun e => by cases e)⟩)
    have hw : ¬ ((w + j : Nat) : Int) = 0 := of_decide_eq_false hb.symm
    refine t_and (P := fun b => b = decide ((2 : Int) < (z : Int))) (t_testV (v_op (e_var rfl) e_int o_gt)) (fun hb2 => ?_) (fun hb2 => ⟨(fun e => by cases e), fun _ => by omega⟩)
    have hz : (2 : Int) < (z : Int) := of_decide_eq_true hb2.symm
    exact (t_drawEq (m := 2) rfl e_int (by decide)).mono fun b _ => ⟨fun _ => .inr (by omega), fun _ => by omega⟩
  · have hz : 1 ≤ z := by
      rcases hb.1 rfl with e | e <;> omega
    refine q_set (v_op (e_var rfl) (v_tup (ds := [.str "lam"]) (a_consV e_str a_nil)) (o_cat (by simp; omega))) (q_set (v_op (e_var rfl) e_int o_add) (c_asgV (v_op (e_var rfl) e_int o_sub) ⟨z - 1, by omega, j + 1, z - 1, by omega, rfl, ?_⟩))
    rw [show ((w + (j + 1) : Nat) : Int) = ((w + j : Nat) : Int) + 1 by omega, show ((z - 1 : Nat) : Int) = (z : Int) - 1 by omega, List.replicate_succ']
    rfl
  · have hw := hb.2 rfl
    refine q_setE (P := fun d => ∃ v : Nat, v < w + j ∧ d = .tup [.int (v : Int)]) (e_tup1 (e_draw (m := w + j) rfl (e_var rfl) ⟨by omega, by omega⟩) fun d ⟨v, hv, e⟩ => ⟨v, hv, by rw [e]⟩) ?_
    rintro d ⟨v, hv, rfl⟩
    refine q_while (fun m S1 => ∃ (x : Nat) (t : Tm) (z5 : Sl), x ≤ z ∧ m = x ∧ nf t = true ∧ isLam t = false ∧ cl (w + j) t ∧ j + size t + 2 * x ≤ 2 * s + 1 ∧ S1 = [.st, .im (.int ((w + j : Nat) : Int)), .im (.int (x : Int)), .im (.tup (List.replicate j (D.str "lam"))), .im (tmD t), z5]) no z
      ⟨z, .var v, .un, Nat.le_refl _, rfl, rfl, rfl, hv, by simp only [size]; omega, rfl⟩ ?_ (fun _ h => h.elim)
    rintro m2 S1 ⟨x, t, z5, hx, em2, ht1, ht2, ht3, hs, rfl⟩
    refine ⟨fun b => b = true → 2 < x, ?_, fun hb => ?_, fun hb => ?_⟩
    · refine t_and (P := fun b => b = decide ((2 : Int) < (x : Int))) (t_testV (v_op (e_var rfl) e_int o_gt)) (fun hb2 => ?_) (fun hb2 => fun e => by cases e)
      have hz : (2 : Int) < (x : Int) := of_decide_eq_true hb2.symm
      exact (t_drawGt (m := 3) rfl e_int (by decide)).mono fun b _ _ => by omega
    · have hx2 := hb rfl
      refine q_setE (P := fun d => ∃ p : Nat, 1 ≤ p ∧ p ≤ x - 1 ∧ d = .int (p : Int)) (e_op e_int (fun _ _ => e_draw (m := x - 1) rfl (v_is (v_op (e_var rfl) e_int o_sub) (by rw [show (x : Int) - 1 = ((x - 1 : Nat) : Int) by omega])) ⟨by omega, by omega⟩) fun a b ea ⟨v, hv, eb⟩ => ?_) ?_
      · subst ea eb
        exact op_mono o_add fun d e => ⟨v + 1, by omega, by omega, by rw [e]; congr 1; omega⟩
      · rintro d ⟨p, p1, p2, rfl⟩
        refine q_setE (e_app (Φ := fun u => u = t) (Ψ := fF (w + j) p) (Ω := fun u => ∃ a, u = .app t a ∧ fF (w + j) p a) ((e_var (i := 4) (d := tmD t) rfl).mono fun d e => ⟨t, e, rfl⟩) (v_call (⟨w + j, p⟩ : GB) (a_stV rfl (a_consV (e_var rfl) (a_consV (e_var rfl) a_nil))) ⟨by show p < n; omega, by omega, by show w + j + p ≤ 1000; omega, p1⟩)
          (fun u hu => by subst hu; omega) (fun u hu => by have := hu.2.2; omega) (fun a b ha hb => by subst ha; exact ⟨b, rfl, hb⟩)) ?_
        rintro d ⟨u, rfl, a, rfl, ha⟩
        refine c_asgV (v_op (v_op (e_var rfl) (e_var rfl) o_sub) e_int o_sub) ⟨x - p - 1, by omega, x - p - 1, .app t a, .im (.int (p : Int)), by omega, rfl, ?_, rfl, ⟨ht3, ha.1⟩, ?_, ?_⟩
        · simp only [nf, ht1, ht2, ha.2.1]; rfl
        · have := ha.2.2
          simp only [size]; omega
        · rw [show (x : Int) - (p : Int) - 1 = ((x - p - 1 : Nat) : Int) by omega]
          rfl
    · refine c_retV (v_op (e_var rfl) (e_var rfl) (o_cat (by rw [List.length_replicate, enc_len]; omega))) ⟨lams j t, by rw [tmD, enc_lams], cl_lams.mpr ht3, by rw [nf_lams]; exact ht1, by rw [size_lams]; omega⟩
theorem ok__law_form {P : Program} {w : World} {K : PySem.W.Frag} {mg : Str → Option Value} {base : Heap} {C aI f : Addr} {fd : FuncData} {k n : Nat} (X : Tx K mg C aI) (F : Fun K "_law_form" "_law_form" s__law_form f fd) (hm : mg "_law_form" = some (.ref f)) (hk : 1 ≤ k) (D__law_draw : Df P w K mg base 1 "_law_draw" ["_law_stream_here", "_law_many"] (sp__law_draw K C)) (D__law_form : Df P w K mg base k "_law_form" ["_law_stream_here", "_law_widest", "_law_size"] (sp__law_form K C n)) :
    Df P w K mg base (k + 1) "_law_form" ["_law_stream_here", "_law_widest", "_law_size"] (sp__law_form K C (n + 1)) :=
  df_mk hm F.kp (F.binds fun _ _ _ _ _ _ us hl => match us, hl with | [_, _, _], _ => rfl) (F.ok sc__law_form spG_len fun cdv A outer s H vs Q E hr h => ⟨t__law_form K C n, pss_cons (ps_set (i := 3) sc__law_form.nd rfl (by first | exact Or.inl rfl | exact Or.inr rfl) (pe_tup (pa_nil))) (pss_cons (ps_while PassesOwn.never (PW.pt (pw_or (pt_cmpR (op_eq) (pv 1) (pe_int) (nomark _)) (pw_or1 (PW.pt (pw_and (pt_cmpR (op_gt) (pv 2) (pe_int) (nomark _)) (pw_and1 (pt_cmpR (op_eq) (pe_own D__law_draw (hr.mono (by omega)) (by rfl) (pa_cons (pv 0) (pa_cons (pe_int) (pa_nil)))) (pe_int) (nomark _)))))))) (pss_cons (ps_set (i := 3) sc__law_form.nd rfl (by first | exact Or.inl rfl | exact Or.inr rfl) (pe_op op_catA (pv 3) (pe_tup (pa_cons (pe_str) (pa_nil))))) (pss_cons (ps_set (i := 1) sc__law_form.nd rfl (by first | exact Or.inl rfl | exact Or.inr rfl) (pe_op op_add (pv 1) (pe_int))) (pss_one (ps_set (i := 2) sc__law_form.nd rfl (by first | exact Or.inl rfl | exact Or.inr rfl) (pe_op op_sub (pv 2) (pe_int))))))) (pss_cons (ps_set (i := 4) sc__law_form.nd rfl (by first | exact Or.inl rfl | exact Or.inr rfl) (pe_tup (pa_cons (pe_own D__law_draw (hr.mono (by omega)) (by rfl) (pa_cons (pv 0) (pa_cons (pv 1) (pa_nil)))) (pa_nil)))) (pss_cons (ps_while PassesOwn.never (PW.pt (pw_and (pt_cmpR (op_gt) (pv 2) (pe_int) (nomark _)) (pw_and1 (pt_cmpR (op_gt) (pe_own D__law_draw (hr.mono (by omega)) (by rfl) (pa_cons (pv 0) (pa_cons (pe_int) (pa_nil)))) (pe_int) (nomark _))))) (pss_cons (ps_set (i := 5) sc__law_form.nd rfl (by first | exact Or.inl rfl | exact Or.inr rfl) (pe_op op_add (pe_int) (pe_own D__law_draw (hr.mono (by omega)) (by rfl) (pa_cons (pv 0) (pa_cons (pe_op op_sub (pv 2) (pe_int)) (pa_nil)))))) (pss_cons (ps_set (i := 4) sc__law_form.nd rfl (by first | exact Or.inl rfl | exact Or.inr rfl) (pe_op op_catA (pe_op op_catA (pe_tup (pa_cons (pe_str) (pa_nil))) (pv 4)) (pe_own D__law_form (hr.mono (by omega)) (by rfl) (pa_cons (pv 0) (pa_cons (pv 1) (pa_cons (pv 5) (pa_nil))))))) (pss_one (ps_set (i := 2) sc__law_form.nd rfl (by first | exact Or.inl rfl | exact Or.inr rfl) (pe_op op_sub (pe_op op_sub (pv 2) (pv 5)) (pe_int))))))) (pss_one (ps_ret (pe_op op_catA (pv 3) (pv 4))))))), run_of (E := E) (c__law_form K C n) h⟩)
abbrev fC (t : Tm) : Prop := cl 0 t ∧ size t ≤ 60
def sp__law_closed (K : PySem.W.Frag) (C : Addr) : Sp := spG K C 2 aSt1 (fun s => 1 ≤ s ∧ s ≤ 11) (fun _ d => IsT fC d)
abbrev s__law_closed : Stmt := topS 70
abbrev n__law_closed : List Str := ["_law_stream_here", "_law_size"]
theorem sc__law_closed : FnScope n__law_closed ["_law_stream_here", "_law_size"] (defScope s__law_closed) := ⟨rfl, rfl, rfl, by decide +kernel, rfl, by decide +kernel, by decide +kernel⟩
-- calls: ['_law_body', '_law_draw', '_law_form']; level 29; slots: 0:_law_stream_here 1:_law_size
def t__law_closed (K : PySem.W.Frag) (C : Addr) : TS := tSeq (tIfS (tTest (tOp (rEq) (tCall (sp__law_draw K C) [] E0 (tCons (tVar 0) (tCons (tC (.int 4)) (tNil)))) (tC (.int 0)))) (tRet (tCall (sp__law_body K C 13) [] E0 (tCons (tVar 0) (tCons (tC (.int 0)) (tCons (tOp (rAddI) (tC (.int 2)) (tCall (sp__law_draw K C) [] E0 (tCons (tVar 0) (tCons (tVar 1) (tNil))))) (tNil)))))) (tNext)) (tRet (tCall (sp__law_form K C 13) [] E0 (tCons (tVar 0) (tCons (tC (.int 0)) (tCons (tOp (rAddI) (tC (.int 2)) (tCall (sp__law_draw K C) [] E0 (tCons (tVar 0) (tCons (tVar 1) (tNil))))) (tNil))))))
theorem a_closed {K : PySem.W.Frag} {C : Addr} {S : List Sl} {s : Nat} (h0 : S[0]? = some .st) (h1 : S[1]? = some (.im (.int (s : Int)))) (hs : 1 ≤ s ∧ s ≤ 11) :
    AgD K C (tCons (tVar 0) (tCons (tC (.int 0)) (tCons (tOp (rAddI) (tC (.int 2)) (tCall (sp__law_draw K C) [] E0 (tCons (tVar 0) (tCons (tVar 1) (tNil))))) (tNil)))) S (fun ss => ∃ v : Nat, 2 ≤ v ∧ v ≤ 12 ∧ ss = aB ⟨0, v⟩) := by
  refine (a_st h0 (a_cons e_int (a_cons (e_op e_int (fun _ _ => e_draw (m := s) h0 (e_var h1) ⟨by omega, by omega⟩) (R := fun d => ∃ v : Nat, 2 ≤ v ∧ v ≤ 12 ∧ d = .int (v : Int)) fun a b ea ⟨v, hv, eb⟩ => ?_) a_nil))).mono ?_
  · subst ea eb
    exact op_mono o_add fun d e => ⟨v + 2, by omega, by omega, by rw [e]; congr 1; omega⟩
  · rintro ss ⟨r, rfl, d, r2, rfl, rfl, d3, r4, rfl, ⟨v, v1, v2, rfl⟩, rfl⟩
    exact ⟨v, v1, v2, rfl⟩
theorem c__law_closed (K : PySem.W.Frag) (C : Addr) (s : Nat) (hp : 1 ≤ s ∧ s ≤ 11) (_ : (aSt1 s).length = 2) :
    CmD K C (t__law_closed K C) (aSt1 s ++ List.replicate (n__law_closed.length - 2) .un) (fun _ => IsT fC .non) (fun d => IsT fC d) no no := by
  refine q_ways (t_drawEq (m := 4) rfl e_int (by decide)) (fun _ => q_retE (P := IsT fC) (e_call (a_closed rfl rfl hp) fun ss ⟨v, v1, v2, e⟩ => ⟨(⟨0, v⟩ : GB), e, rfl, ⟨by show v < 13; omega, by decide, by show 0 + v ≤ 1000; omega⟩, fun d ⟨t, e, h1, h2⟩ => ⟨t, e, h1, by have h3 : size t ≤ 4 * v + 2 := h2; omega⟩⟩) fun d h => h) (fun _ => q_next ?_)
  exact c_ret (P := IsT fC) (e_call (a_closed rfl rfl hp) fun ss ⟨v, v1, v2, e⟩ => ⟨(⟨0, v⟩ : GB), e, rfl, ⟨by show v < 13; omega, by decide, by show 0 + v ≤ 1000; omega, by show 1 ≤ v; omega⟩, fun d ⟨t, e, h1, h2, h3⟩ => ⟨t, e, h1, by have h4 : size t ≤ 2 * v + 1 := h3; omega⟩⟩) fun d h => h
theorem ok__law_closed {P : Program} {w : World} {K : PySem.W.Frag} {mg : Str → Option Value} {base : Heap} {C aI f : Addr} {fd : FuncData} (X : Tx K mg C aI) (F : Fun K "_law_closed" "_law_closed" s__law_closed f fd) (hm : mg "_law_closed" = some (.ref f)) (D__law_body : Df P w K mg base 28 "_law_body" ["_law_stream_here", "_law_widest", "_law_size"] (sp__law_body K C 13)) (D__law_draw : Df P w K mg base 1 "_law_draw" ["_law_stream_here", "_law_many"] (sp__law_draw K C)) (D__law_form : Df P w K mg base 15 "_law_form" ["_law_stream_here", "_law_widest", "_law_size"] (sp__law_form K C 13)) :
    Df P w K mg base 29 "_law_closed" ["_law_stream_here", "_law_size"] (sp__law_closed K C) :=
  df_mk hm F.kp (F.binds fun _ _ _ _ _ _ us hl => match us, hl with | [_, _], _ => rfl) (F.ok sc__law_closed spG_len fun cdv A outer s H vs Q E hr h => ⟨t__law_closed K C, pss_cons (ps_if (pt_cmpR (op_eq) (pe_own D__law_draw (hr.mono (by decide)) (by rfl) (pa_cons (pv 0) (pa_cons (pe_int) (pa_nil)))) (pe_int) (nomark _)) (pss_one (ps_ret (pe_own D__law_body (hr.mono (by omega)) (by rfl) (pa_cons (pv 0) (pa_cons (pe_int) (pa_cons (pe_op op_add (pe_int) (pe_own D__law_draw (hr.mono (by decide)) (by rfl) (pa_cons (pv 0) (pa_cons (pv 1) (pa_nil))))) (pa_nil))))))) (pss_nil)) (pss_one (ps_ret (pe_own D__law_form (hr.mono (by omega)) (by rfl) (pa_cons (pv 0) (pa_cons (pe_int) (pa_cons (pe_op op_add (pe_int) (pe_own D__law_draw (hr.mono (by decide)) (by rfl) (pa_cons (pv 0) (pa_cons (pv 1) (pa_nil))))) (pa_nil))))))), run_of (E := E) (c__law_closed K C) h⟩)
/-! _law_near -/
theorem cl_repl : ∀ {t : Tm} {k p n w v : Nat}, cl k t → subAt t p = some (.var n) → (dep k t)[p]? = some w → v < w → cl k (repl t p (.var v))
  | .var m, k, p, n, w, v, h, hs, hd, hv => by
    cases p with
    | zero =>
      simp only [dep, List.getElem?_cons_zero, Option.some.injEq] at hd
      subst hd
      simp only [repl]
      exact hv
    | succ p => simp [subAt] at hs
  | .lam b, k, p, n, w, v, h, hs, hd, hv => by
    cases p with
    | zero => simp [subAt] at hs
    | succ p =>
      simp only [dep, List.getElem?_cons_succ] at hd
      simp only [repl, subAt] at hs ⊢
      exact cl_repl (t := b) (k := k + 1) h hs hd hv
  | .app f x, k, p, n, w, v, h, hs, hd, hv => by
    cases p with
    | zero => simp [subAt] at hs
    | succ p =>
      simp only [dep, List.getElem?_cons_succ] at hd
      simp only [repl, subAt] at hs ⊢
      have hl := dep_len f k
      by_cases hp : p < size f
      · rw [if_pos hp] at hs ⊢
        rw [List.getElem?_append_left (by omega)] at hd
        exact ⟨cl_repl h.1 hs hd hv, h.2⟩
      · rw [if_neg hp] at hs ⊢
        rw [List.getElem?_append_right (by omega), hl] at hd
        exact ⟨h.1, cl_repl h.2 hs hd hv⟩
theorem dep_le : ∀ {t : Tm} {k p w : Nat}, (dep k t)[p]? = some w → w ≤ k + size t
  | .var m, k, p, w, h => by
    cases p with
    | zero => simp only [dep, List.getElem?_cons_zero, Option.some.injEq] at h; omega
    | succ p => simp [dep] at h
  | .lam b, k, p, w, h => by
    cases p with
    | zero => simp only [dep, List.getElem?_cons_zero, Option.some.injEq] at h; omega
    | succ p =>
      simp only [dep, List.getElem?_cons_succ] at h
      have := dep_le h
      simp only [size]; omega
  | .app f x, k, p, w, h => by
    cases p with
    | zero => simp only [dep, List.getElem?_cons_zero, Option.some.injEq] at h; omega
    | succ p =>
      simp only [dep, List.getElem?_cons_succ] at h
      rcases List.mem_append.mp (List.mem_of_getElem? h) with h | h
      · obtain ⟨i, hi⟩ := List.getElem?_of_mem h
        have := dep_le hi
        simp only [size]; omega
      · obtain ⟨i, hi⟩ := List.getElem?_of_mem h
        have := dep_le hi
        simp only [size]; omega
abbrev aNear (t : Tm) : List Sl := [.st, .im (tmD t)]
def sp__law_near (K : PySem.W.Frag) (C : Addr) : Sp := spG K C 2 aNear fC (fun _ d => IsT fC d)
abbrev s__law_near : Stmt := topS 72
abbrev n__law_near : List Str := ["_law_stream_here", "_law_term", "_law_at", "_law_depths_here"]
theorem sc__law_near : FnScope n__law_near ["_law_stream_here", "_law_term"] (defScope s__law_near) := ⟨rfl, rfl, rfl, by decide +kernel, rfl, by decide +kernel, by decide +kernel⟩
-- calls: ['_law_depths', '_law_draw']; level 2; slots: 0:_law_stream_here 1:_law_term 2:_law_at 3:_law_depths_here
def t__law_near (K : PySem.W.Frag) (C : Addr) : TS := tSeq (tAsg (tCall (sp__law_draw K C) [] E0 (tCons (tVar 0) (tCons (tCB (rLenS K) (tCons (tVar 1) (tNil))) (tNil)))) (gName 2)) (tSeq (tAsg (tCall (sp__law_depths K C) [] E0 (tCons (tVar 1) (tNil))) (gName 3)) (tSeq (tIfS (tOr (tTest (tOp (rEq) (tOp (rIx K) (tVar 1) (tVar 2)) (tC (.str "app")))) (tOr (tTest (tOp (rEq) (tOp (rIx K) (tVar 1) (tVar 2)) (tC (.str "lam")))) (tTest (tOp (rEq) (tOp (rIx K) (tVar 3) (tVar 2)) (tC (.int 0)))))) (tRet (tVar 1)) (tNext)) (tRet (tOp (rCatA K) (tOp (rCatA K) (tSl (rSlA K) (tVar 1) (tNoPart) (tPart (tVar 2))) (tTup (tCons (tCall (sp__law_draw K C) [] E0 (tCons (tVar 0) (tCons (tOp (rIx K) (tVar 3) (tVar 2)) (tNil)))) (tNil)))) (tSl (rSlA K) (tVar 1) (tPart (tOp (rAddI) (tVar 2) (tC (.int 1)))) (tNoPart))))))
theorem c__law_near (K : PySem.W.Frag) (C : Addr) (t : Tm) (hp : fC t) (_ : (aNear t).length = 2) :
    CmD K C (t__law_near K C) (aNear t ++ List.replicate (n__law_near.length - 2) .un) (fun _ => IsT fC .non) (fun d => IsT fC d) no no := by
  obtain ⟨h1, h2⟩ := hp
  have hl := enc_len t
  have hpos := size_pos t
  refine q_setE (e_draw (m := size t) rfl (v_is (v_cb (ds := [tmD t]) (a_consV (e_var rfl) a_nil) k_lenT) (by rw [hl])) ⟨hpos, by omega⟩) ?_
  rintro d ⟨p, hp, rfl⟩
  refine q_setE (v_call t (a_consV (e_var rfl) a_nil) (show size t < 1000000 by omega)) ?_
  rintro d rfl
  obtain ⟨s, a, c, hs, e, el⟩ := at_cases hp
  have hi : ((p : Nat) : Int) = (a.length : Int) := by rw [el]
  obtain ⟨x0, w, f1, hx, f2, f3⟩ := enc_at hp
  have gw := getN (n := ((p : Nat) : Int)) f3 rfl
  cases s with
  | lam b => exact q_yes (ts_is (t_orV (a := false) (b := true) (t_testV (v_op (v_op (e_var rfl) (e_var rfl) (o_ixT (hd_lam e hi))) e_str eq_la)) fun _ => ts_is (t_orV (a := true) (b := true) (t_testV (v_op (v_op (e_var rfl) (e_var rfl) (o_ixT (hd_lam e hi))) e_str eq_ll)) fun e => by cases e) rfl) rfl) (q_ret (e_var rfl) ⟨t, rfl, h1, h2⟩)
  | app f x => exact q_yes (ts_is (t_orV (a := true) (b := true) (t_testV (v_op (v_op (e_var rfl) (e_var rfl) (o_ixT (hd_app e hi))) e_str eq_aa)) fun e => by cases e) rfl) (q_ret (e_var rfl) ⟨t, rfl, h1, h2⟩)
  | var n =>
    refine q_ways (t_orV (a := false) (b := decide ((w : Int) = 0)) (t_testV (v_op (v_op (e_var rfl) (e_var rfl) (o_ixT (hd_var e hi))) e_str o_eqIS)) fun _ => ts_is (t_orV (a := false) (b := decide ((w : Int) = 0)) (t_testV (v_op (v_op (e_var rfl) (e_var rfl) (o_ixT (hd_var e hi))) e_str o_eqIS)) fun _ => t_testV (v_op (v_op (e_var rfl) (e_var rfl) (o_ixL gw)) e_int o_eqII)) (by simp)) (fun _ => q_ret (e_var rfl) ⟨t, rfl, h1, h2⟩) (fun hb => q_next ?_)
    have hw : ¬ (w : Int) = 0 := of_decide_eq_false (by simpa using hb.symm)
    have hcl : a.length + 1 + c.length = size t := by
      have := congrArg List.length e
      simp only [List.length_append, hl, enc, List.length_cons, List.length_nil] at this
      omega
    have sA : cutD (enc t) none (some ((p : Nat) : Int)) = a := cut_pre (c := enc (.var n) ++ c) (by rw [e]; simp) hi
    have sC : cutD (enc t) (some (((p : Nat) : Int) + 1)) none = c := cut_suf (a := a ++ enc (.var n)) e (by simp [enc]; omega)
    have eR : ∀ v : Nat, enc (repl t p (.var v)) = a ++ [.int (v : Int)] ++ c := fun v => by
      obtain ⟨a', c', e1, e2, e3⟩ := subAt_enc hs
      have e4 : a' = a ∧ c' = c := by
        rw [e] at e1
        have h5 := List.append_inj (by rw [List.append_assoc, List.append_assoc] at e1; exact e1) (by omega : a.length = a'.length)
        have h6 := List.append_inj h5.2 rfl
        exact ⟨h5.1.symm, h6.2.symm⟩
      rw [e3, e4.1, e4.2]
      simp [enc]
    refine c_ret (P := fun d => ∃ v : Nat, v < w ∧ d = tmD (repl t p (.var v))) ?_ fun d ⟨v, hv, ed⟩ => ⟨_, ed, cl_repl h1 hs f2 hv, ?_⟩
    · refine e_op (P := fun d => ∃ v : Nat, v < w ∧ d = .tup (a ++ [.int (v : Int)])) (e_op (v_is (v_slice (e_var rfl) po_no (po_yes (e_var (i := 2) rfl))) (by rw [sA])) (fun _ _ => e_tup1 (R := fun d => ∃ v : Nat, v < w ∧ d = .tup [.int (v : Int)]) (e_draw (m := w) rfl (v_op (e_var rfl) (e_var rfl) (o_ixL gw)) ⟨by omega, ?_⟩) fun d ⟨v, hv, e⟩ => ⟨v, hv, by rw [e]⟩) fun x y ex ⟨v, hv, ey⟩ => ?_) (fun _ _ => v_is (v_slice (e_var rfl) (po_yes (v_op (e_var (i := 2) rfl) e_int o_add)) po_no) (by rw [sC])) fun x y ⟨v, hv, ex⟩ ey => ?_
      · have := dep_le f2
        omega
      · subst ex ey
        exact op_mono (o_cat (by simp; omega)) fun d e => ⟨v, hv, e⟩
      · subst ex ey
        exact op_mono (o_cat (by simp; omega)) fun d e => ⟨v, hv, by rw [e, tmD, eR]⟩
    · have := size_repl (u := .var v) hs
      simp only [size] at this
      omega
theorem ok__law_near {P : Program} {w : World} {K : PySem.W.Frag} {mg : Str → Option Value} {base : Heap} {C aI f : Addr} {fd : FuncData} (X : Tx K mg C aI) (F : Fun K "_law_near" "_law_near" s__law_near f fd) (hm : mg "_law_near" = some (.ref f)) (D__law_depths : Df P w K mg base 1 "_law_depths" ["_law_term"] (sp__law_depths K C)) (D__law_draw : Df P w K mg base 1 "_law_draw" ["_law_stream_here", "_law_many"] (sp__law_draw K C)) :
    Df P w K mg base 2 "_law_near" ["_law_stream_here", "_law_term"] (sp__law_near K C) :=
  df_mk hm F.kp (F.binds fun _ _ _ _ _ _ us hl => match us, hl with | [_, _], _ => rfl) (F.ok sc__law_near spG_len fun cdv A outer s H vs Q E hr h => ⟨t__law_near K C, pss_cons (ps_set (i := 2) sc__law_near.nd rfl (by first | exact Or.inl rfl | exact Or.inr rfl) (pe_own D__law_draw (hr.mono (by decide)) (by rfl) (pa_cons (pv 0) (pa_cons (pe_callB call_len_seq (by rfl) X.len (by decide +kernel) (pa_cons (pv 1) (pa_nil))) (pa_nil))))) (pss_cons (ps_set (i := 3) sc__law_near.nd rfl (by first | exact Or.inl rfl | exact Or.inr rfl) (pe_own D__law_depths (hr.mono (by decide)) (by rfl) (pa_cons (pv 1) (pa_nil)))) (pss_cons (ps_if (PW.pt (pw_or (pt_cmpR (op_eq) (pe_ix ix_seq (pv 1) (pv 2) (fun _ _ => rfl)) (pe_str) (nomark _)) (pw_or (pt_cmpR (op_eq) (pe_ix ix_seq (pv 1) (pv 2) (fun _ _ => rfl)) (pe_str) (nomark _)) (pw_or1 (pt_cmpR (op_eq) (pe_ix ix_seq (pv 3) (pv 2) (fun _ _ => rfl)) (pe_int) (nomark _)))))) (pss_one (ps_ret (pv 1))) (pss_nil)) (pss_one (ps_ret (pe_op op_catA (pe_op op_catA (pe_slice sl_tupA (pv 1) (po_none) (po_some (pv 2))) (pe_tup (pa_cons (pe_own D__law_draw (hr.mono (by decide)) (by rfl) (pa_cons (pv 0) (pa_cons (pe_ix ix_seq (pv 3) (pv 2) (fun _ _ => rfl)) (pa_nil)))) (pa_nil)))) (pe_slice sl_tupA (pv 1) (po_some (pe_op op_add (pv 2) (pe_int))) (po_none))))))), run_of (E := E) (c__law_near K C) h⟩)
end Wk
end
section
set_option Elab.async false
set_option autoImplicit false
set_option linter.all false
set_option maxRecDepth 100000
set_option maxHeartbeats 4000000
/-! _law_pair. -/
namespace Wk
open PySem L2 Dl Dx Lam
theorem cl_ren : ∀ {t : Tm} {k l : Nat} {r : Nat → Nat}, cl k t → (∀ n, n < k → r n < l) → cl l (ren r t)
  | .var n, k, l, r, h, hr => hr n h
  | .lam b, k, l, r, h, hr => cl_ren (t := b) (k := k + 1) (l := l + 1) h fun n hn => by
    cases n with
    | zero => show 0 < l + 1; omega
    | succ n => have := hr n (by omega); show r n + 1 < l + 1; omega
  | .app f x, k, l, r, h, hr => ⟨cl_ren h.1 hr, cl_ren h.2 hr⟩
theorem cl_unren : ∀ {t : Tm} {k l : Nat} {r : Nat → Nat}, cl l (ren r t) → (∀ n, r n < l → n < k) → cl k t
  | .var n, k, l, r, h, hr => hr n h
  | .lam b, k, l, r, h, hr => cl_unren (t := b) (k := k + 1) (l := l + 1) h fun n hn => by
    cases n with
    | zero => omega
    | succ n => have := hr n (by have h1 : r n + 1 < l + 1 := hn; omega); omega
  | .app f x, k, l, r, h, hr => ⟨cl_unren h.1 hr, cl_unren h.2 hr⟩
theorem cl_sub : ∀ {t : Tm} {k l : Nat} {s : Nat → Tm}, cl k t → (∀ n, n < k → cl l (s n)) → cl l (sub s t)
  | .var n, k, l, s, h, hs => hs n h
  | .lam b, k, l, s, h, hs => cl_sub (t := b) (k := k + 1) (l := l + 1) h fun n hn => by
    cases n with
    | zero => show 0 < l + 1; omega
    | succ n => exact cl_ren (hs n (by omega)) fun m hm => by omega
  | .app f x, k, l, s, h, hs => ⟨cl_sub h.1 hs, cl_sub h.2 hs⟩
theorem cl_inst {b v : Tm} {k : Nat} (h1 : cl (k + 1) b) (h2 : cl k v) : cl k (inst b v) := cl_sub h1 fun n hn => by
  cases n with
  | zero => exact h2
  | succ n => show n < k; omega
theorem cl_beta {t u : Tm} (h : Beta t u) : ∀ {k : Nat}, cl k t → cl k u := by
  induction h with
  | red b v => intro k h; exact cl_inst h.1 h.2
  | lam _ ih => intro k h; exact ih (k := k + 1) h
  | appl _ ih => intro k h; exact ⟨ih h.1, h.2⟩
  | appr _ ih => intro k h; exact ⟨h.1, ih h.2⟩
theorem cl_betas {t u : Tm} (h : Betas t u) {k : Nat} (c : cl k t) : cl k u := by
  induction h with
  | refl _ => exact c
  | head r _ ih => exact ih (cl_beta r c)
theorem cl_eta {t u : Tm} (h : Eta t u) : ∀ {k : Nat}, cl k t → cl k u := by
  induction h with
  | var n => intro k h; exact h
  | lam _ ih => intro k h; exact ih (k := k + 1) h
  | app _ _ i1 i2 => intro k h; exact ⟨i1 h.1, i2 h.2⟩
  | eta _ ih =>
    intro k h
    have h1 : cl (k + 1) (.app (ren Nat.succ _) (.var 0)) := h
    exact ih (cl_unren h1.1 fun n hn => by omega)
theorem cl_etas {t u : Tm} (h : Etas t u) {k : Nat} (c : cl k t) : cl k u := by
  induction h with
  | refl _ => exact c
  | head r _ ih => exact ih (cl_eta r c)
/-- u is the fully normal term of a -/
structure Cv (a u : Tm) : Prop where
  ex : ∃ N, Betas a N ∧ nf N = true ∧ Etas N u
  en : en u = true
structure PairOk (a b u v : Tm) : Prop where
  sa : size a ≤ 60
  sb : size b ≤ 60
  cu : Cv a u
  cv : Cv b v
  two : Two 40 0 u v
theorem Cv.ok {a u : Tm} (h : Cv a u) (c : cl 0 a) : nf u = true ∧ cl 0 u := by
  obtain ⟨N, h1, h2, h3⟩ := h.ex
  exact ⟨Etas.nf h3 h2, cl_etas h3 (cl_betas h1 c)⟩
abbrev pPair (d : D) : Prop := ∃ a b u v, d = .lst (dT [a, b, u, v]) ∧ PairOk a b u v
def sp__law_pair (K : PySem.W.Frag) (C : Addr) : Sp := spG K C 1 (fun _ : Unit => [.st]) (fun _ => True) (fun _ d => pPair d)
abbrev s__law_pair : Stmt := topS 78
abbrev n__law_pair : List Str := ["_law_stream_here", "_law_one", "_law_two", "_law_rows", "_law_term", "_law_found", "_law_row"]
theorem sc__law_pair : FnScope n__law_pair ["_law_stream_here"] (defScope s__law_pair) := ⟨rfl, rfl, rfl, by decide +kernel, rfl, by decide +kernel, by decide +kernel⟩
-- calls: ['_law_closed', '_law_draw', '_law_near', '_law_normal', '_law_shrink']; level 30; slots: 0:_law_stream_here 1:_law_one 2:_law_two 3:_law_rows 4:_law_term 5:_law_found 6:_law_row
def t__law_pair (K : PySem.W.Frag) (C : Addr) : TS := tSeq (tAsg (tCall (sp__law_closed K C) [] E0 (tCons (tVar 0) (tCons (tC (.int 11)) (tNil)))) (gName 1)) (tSeq (tAsg (tCall (sp__law_closed K C) [] E0 (tCons (tVar 0) (tCons (tC (.int 11)) (tNil)))) (gName 2)) (tSeq (tIfS (tTest (tOp (rGtI) (tCall (sp__law_draw K C) [] E0 (tCons (tVar 0) (tCons (tC (.int 3)) (tNil)))) (tC (.int 0)))) (tAsg (tCall (sp__law_near K C) [] E0 (tCons (tVar 0) (tCons (tVar 1) (tNil)))) (gName 2)) (tNext)) (tSeq (tAsg (tLst (tCons (tVar 1) (tCons (tVar 2) (tNil)))) (gName 3)) (tSeq (tFor (iTup K (tTup (tCons (tVar 1) (tCons (tVar 2) (tNil))))) (gName 4) (tSeq (tAsg (tCall (sp__law_normal K C) [] E0 (tCons (tVar 4) (tCons (tC (.int 60)) (tNil)))) (gName 5)) (tIfS (tB (tNotN (tVar 5))) (tDrop (tBM K "list" (rAppend) (tVar 3) (tCons (tCall (sp__law_shrink K C) [] E0 (tCons (tOp (rIx K) (tVar 5) (tC (.int 0))) (tNil))) (tNil)))) (tNext)))) (tSeq (tIfS (tOr (tTest (tOp (rLtI) (tCB (rLenS K) (tCons (tVar 3) (tNil))) (tC (.int 4)))) (tOr (tTest (tOp (rEqD K) (tOp (rIx K) (tVar 3) (tC (.int 2))) (tOp (rIx K) (tVar 3) (tC (.int 3))))) (tTest (tOp (rGtI) (tCB (rMax K) (tCons (tLc (iList K (tVar 3)) (gName 6) (tYes) (tCB (rLenS K) (tCons (tVar 6) (tNil))) [6]) (tNil))) (tC (.int 40)))))) (tAsg (tLst (tCons (tTup (tCons (tC (.str "lam")) (tCons (tC (.str "lam")) (tCons (tC (.int 1)) (tNil))))) (tCons (tTup (tCons (tC (.str "lam")) (tCons (tC (.str "lam")) (tCons (tC (.int 0)) (tNil))))) (tCons (tTup (tCons (tC (.str "lam")) (tCons (tC (.str "lam")) (tCons (tC (.int 1)) (tNil))))) (tCons (tTup (tCons (tC (.str "lam")) (tCons (tC (.str "lam")) (tCons (tC (.int 0)) (tNil))))) (tNil)))))) (gName 3)) (tNext)) (tRet (tVar 3)))))))
def fl1 : Tm := .lam (.lam (.var 1))
def fl0 : Tm := .lam (.lam (.var 0))
theorem fl_ok : PairOk fl1 fl0 fl1 fl0 :=
  ⟨by decide, by decide, ⟨⟨fl1, .refl _, rfl, .refl _⟩, rfl⟩, ⟨⟨fl0, .refl _, rfl, .refl _⟩, rfl⟩, ⟨rfl, rfl, rfl, rfl, by show 1 < 2; decide, by show 0 < 2; decide, by decide, by decide, by decide⟩⟩
/-- what a loop over the two has found -/
def Got (a b : Tm) (r : List D) (us : List Tm) : Prop :=
  (r = [tmD a, tmD b] ∧ us = []) ∨ (r = [tmD b] ∧ (us = [] ∨ ∃ u, us = [u] ∧ Cv a u)) ∨ (r = [] ∧ (us.length ≤ 1 ∨ ∃ u v, us = [u, v] ∧ Cv a u ∧ Cv b v))
theorem Got.len {a b : Tm} {r : List D} {us : List Tm} (h : Got a b r us) : us.length ≤ 2 := by
  rcases h with ⟨_, rfl⟩ | ⟨_, rfl | ⟨u, rfl, _⟩⟩ | ⟨_, h | ⟨u, v, rfl, _⟩⟩
  · simp
  · simp
  · simp
  · omega
  · simp
theorem Got.next {a b : Tm} {d : D} {r : List D} {us : List Tm} (h : Got a b (d :: r) us) : ∃ t, d = tmD t ∧ (t = a ∨ t = b) ∧ Got a b r us ∧ ∀ u, Cv t u → Got a b r (us ++ [u]) := by
  rcases h with ⟨e, rfl⟩ | ⟨e, h⟩ | ⟨e, _⟩
  · simp only [List.cons.injEq] at e
    obtain ⟨rfl, rfl⟩ := e
    exact ⟨a, rfl, .inl rfl, .inr (.inl ⟨rfl, .inl rfl⟩), fun u hu => .inr (.inl ⟨rfl, .inr ⟨u, rfl, hu⟩⟩)⟩
  · simp only [List.cons.injEq] at e
    obtain ⟨rfl, rfl⟩ := e
    refine ⟨b, rfl, .inr rfl, .inr (.inr ⟨rfl, .inl ?_⟩), fun v hv => .inr (.inr ⟨rfl, ?_⟩)⟩
    · rcases h with rfl | ⟨u, rfl, _⟩ <;> simp
    · rcases h with rfl | ⟨u, rfl, hu⟩
      · exact .inl (by simp)
      · exact .inr ⟨u, v, rfl, hu, hv⟩
  · cases e
theorem c__law_pair (K : PySem.W.Frag) (C : Addr) (g : Unit) (_ : True) (_ : ([.st] : List Sl).length = 1) :
    CmD K C (t__law_pair K C) ([.st] ++ List.replicate (n__law_pair.length - 1) .un) (fun _ => pPair .non) (fun d => pPair d) no no := by
  show CmD K C _ [.st, .un, .un, .un, .un, .un, .un] _ _ _ _
  refine q_setE (v_call 11 (a_is (a_stV rfl (a_consV e_int a_nil)) rfl) (by decide)) ?_
  rintro d ⟨a, rfl, ha⟩
  refine q_setE (v_call 11 (a_is (a_stV rfl (a_consV e_int a_nil)) rfl) (by decide)) ?_
  rintro d ⟨b0, rfl, hb0⟩
  refine q_if (fun S1 => ∃ b, fC b ∧ S1 = [.st, .im (tmD a), .im (tmD b), .un, .un, .un, .un]) (t_drawGt (m := 3) rfl e_int (by decide)) (fun _ => c_asg (v_call a (a_stV rfl (a_consV (e_var rfl) a_nil)) ha) fun d ⟨b, e, hb⟩ => ⟨b, hb, by rw [e]; rfl⟩) (fun _ => c_next ⟨b0, hb0, rfl⟩) ?_
  rintro S1 ⟨b, hb, rfl⟩
  refine q_lst (ds := [tmD a, tmD b]) (a_consV (e_var rfl) (a_consV (e_var rfl) a_nil)) ?_
  refine q_forR (it_tup (v_tup (ds := [tmD a, tmD b]) (a_consV (e_var rfl) (a_consV (e_var rfl) a_nil)))) (fun r S1 => ∃ (us : List Tm) (z4 z5 : Sl), Got a b r us ∧ S1 = [.st, .im (tmD a), .im (tmD b), .ml (dT ([a, b] ++ us)), z4, z5, .un]) no ⟨[], .un, .un, .inl ⟨rfl, rfl⟩, rfl⟩ ?_ ?_ (fun _ h => h.elim)
  · rintro d r S1 ⟨us, z4, z5, hg, rfl⟩
    obtain ⟨t, rfl, ht, hg1, hg2⟩ := hg.next
    have hlen := hg.len
    have hst : size t ≤ 60 := by rcases ht with rfl | rfl <;> first | exact ha.2 | exact hb.2
    refine ⟨_, tg_name, ?_⟩
    refine q_setE (v_call (⟨t, 60⟩ : GNorm) (a_is (a_consV (e_var rfl) (a_consV e_int a_nil)) rfl) ⟨by show size t < 900000; omega, by show 60 ≤ 1000; decide⟩) ?_
    rintro d (rfl | ⟨N, j, rfl, n1, n2, n3⟩)
    · exact c_no (ts_is (t_bV (v_notN (b := false) (e_var rfl) (fun B v rv => by cases rv; rfl))) rfl) (c_next ⟨us, .im (tmD t), .im .non, hg1, rfl⟩)
    · have n3' : size N ≤ size t + 1000 := n3
      refine c_yes (ts_is (t_bV (v_notN (b := true) (e_var rfl) (fun B v rv => by cases rv; rfl))) rfl) ?_
      refine c_append rfl (v_call N (a_consV (v_op (e_var rfl) e_int (o_ixT (d := tmD N) (atI_pos (n := 0) rfl))) a_nil) (show size N < 1000000 by omega)) (by rw [PySem.sizeLine_eq, dT_len]; simp; omega) fun d ⟨u, eu, u1, u2, u3⟩ => ⟨us ++ [u], .im (tmD t), .im (.tup [tmD N, .int (j : Int)]), hg2 u ⟨⟨N, n1, n2, u1⟩, u2⟩, ?_⟩
      rw [eu, ← List.append_assoc, dT_app ([a, b] ++ us)]
      rfl
  · rintro S1 ⟨us, z4, z5, hg, rfl⟩
    have fall : ∀ S2, S2 = [.st, .im (tmD a), .im (tmD b), .ml (dT ([a, b] ++ us)), z4, z5, .un] → CmD K C (tSeq (tAsg (tLst (tCons (tTup (tCons (tC (.str "lam")) (tCons (tC (.str "lam")) (tCons (tC (.int 1)) (tNil))))) (tCons (tTup (tCons (tC (.str "lam")) (tCons (tC (.str "lam")) (tCons (tC (.int 0)) (tNil))))) (tCons (tTup (tCons (tC (.str "lam")) (tCons (tC (.str "lam")) (tCons (tC (.int 1)) (tNil))))) (tCons (tTup (tCons (tC (.str "lam")) (tCons (tC (.str "lam")) (tCons (tC (.int 0)) (tNil))))) (tNil)))))) (gName 3)) (tRet (tVar 3))) S2 (fun _ => pPair .non) (fun d => pPair d) no no := by
      rintro S2 rfl
      have v1 : ∀ n : Nat, VlD K C (tTup (tCons (tC (.str "lam")) (tCons (tC (.str "lam")) (tCons (tC (.int (n : Int))) (tNil))))) [.st, .im (tmD a), .im (tmD b), .ml (dT ([a, b] ++ us)), z4, z5, .un] (tmD (.lam (.lam (.var n)))) := fun n => v_tup (ds := [.str "lam", .str "lam", .int (n : Int)]) (a_consV e_str (a_consV e_str (a_consV e_int a_nil)))
      refine q_lst (ds := dT [fl1, fl0, fl1, fl0]) (a_consV (v1 1) (a_consV (v1 0) (a_consV (v1 1) (a_consV (v1 0) a_nil)))) (c_retL rfl ⟨fl1, fl0, fl1, fl0, rfl, fl_ok⟩) (by simp)
    rcases hg with ⟨e, _⟩ | ⟨e, _⟩ | ⟨_, hg⟩
    · cases e
    · cases e
    · rcases hg with hg | ⟨u, v, rfl, hu, hv⟩
      · refine q_yes (t_peek (j := 3) rfl (ts_is (t_orV (a := true) (b := true) (t_testV (v_is (v_op (v_cb (ds := [.lst (dT ([a, b] ++ us))]) (a_consV (e_var rfl) a_nil) k_lenL) e_int o_lt) ?_)) fun e => by cases e) rfl)) (fall _ rfl)
        rw [dT_len, decide_eq_true (by simp; omega)]
      · obtain ⟨hu1, hu2⟩ := hu.ok ha.1
        obtain ⟨hv1, hv2⟩ := hv.ok hb.1
        obtain ⟨m, _, hm⟩ := max_ex ([a, b, u, v].map fun a => (size a : Int))
        have hm := hm (by simp)
        have tst : TsD K C (tOr (tTest (tOp (rLtI) (tCB (rLenS K) (tCons (tVar 3) (tNil))) (tC (.int 4)))) (tOr (tTest (tOp (rEqD K) (tOp (rIx K) (tVar 3) (tC (.int 2))) (tOp (rIx K) (tVar 3) (tC (.int 3))))) (tTest (tOp (rGtI) (tCB (rMax K) (tCons (tLc (iList K (tVar 3)) (gName 6) (tYes) (tCB (rLenS K) (tCons (tVar 6) (tNil))) [6]) (tNil))) (tC (.int 40)))))) [.st, .im (tmD a), .im (tmD b), .ml (dT ([a, b] ++ [u, v])), z4, z5, .un] (fun b => b = (false || (decide (u = v) || decide ((40 : Int) < m)))) := by
          refine t_peek (j := 3) rfl (t_orV (t_testV (v_op (v_cb (ds := [.lst (dT ([a, b] ++ [u, v]))]) (a_consV (e_var rfl) a_nil) k_lenL) e_int o_lt)) fun _ => t_orV (t_testV (v_op (v_op (e_var rfl) e_int (o_ixL (d := tmD u) (atI_pos (n := 2) rfl))) (v_op (e_var rfl) e_int (o_ixL (d := tmD v) (atI_pos (n := 3) rfl))) (o_eqD (isq_enc u) (isq_enc v) (by decide) (by decide) (encT_iff (by simp))))) fun _ =>
            t_testV (v_op (v_cb (ds := [.lst (([a, b, u, v].map fun a => (size a : Int)).map D.int)]) (a_consV (v_is (e := .lst (([a, b, u, v].map fun a => (size a : Int)).map D.int)) (v_lcG (as := [a, b, u, v]) (g := tmD) (f := fun a => .int (size a : Int)) (it_list (e_var rfl)) rfl (fun a _ => ?_) (by simp)) rfl) a_nil) (k_max hm.1 hm.2)) e_int o_gt))
          exact v_is (v_cb (ds := [tmD a]) (a_consV (e_var rfl) a_nil) k_lenT) (by rw [enc_len])
        refine q_ways tst (fun _ => fall _ rfl) (fun hb2 => q_next (c_retL rfl ⟨a, b, u, v, rfl, ?_⟩))
        simp only [Bool.false_or] at hb2
        have hb3 := Bool.or_eq_false_iff.mp hb2.symm
        have hle : ∀ x ∈ [a, b, u, v], size x ≤ 40 := fun x hx => by
          have := hm.2 _ (List.mem_map.mpr ⟨x, hx, rfl⟩)
          have := of_decide_eq_false hb3.2
          omega
        exact ⟨ha.2, hb.2, hu, hv, hu1, hv1, hu.en, hv.en, hu2, hv2, hle u (by simp), hle v (by simp), of_decide_eq_false hb3.1⟩
theorem ok__law_pair {P : Program} {w : World} {K : PySem.W.Frag} {mg : Str → Option Value} {base : Heap} {C aI f : Addr} {fd : FuncData} (X : Tx K mg C aI) (F : Fun K "_law_pair" "_law_pair" s__law_pair f fd) (hm : mg "_law_pair" = some (.ref f)) (D__law_closed : Df P w K mg base 29 "_law_closed" ["_law_stream_here", "_law_size"] (sp__law_closed K C)) (D__law_draw : Df P w K mg base 1 "_law_draw" ["_law_stream_here", "_law_many"] (sp__law_draw K C)) (D__law_near : Df P w K mg base 2 "_law_near" ["_law_stream_here", "_law_term"] (sp__law_near K C)) (D__law_normal : Df P w K mg base 5 "_law_normal" ["_law_term", "_law_steps"] (sp__law_normal K C)) (D__law_shrink : Df P w K mg base 2 "_law_shrink" ["_law_term"] (sp__law_shrink K C)) :
    Df P w K mg base 30 "_law_pair" ["_law_stream_here"] (sp__law_pair K C) :=
  df_mk hm F.kp (F.binds fun _ _ _ _ _ _ us hl => match us, hl with | [_], _ => rfl) (F.ok sc__law_pair spG_len fun cdv A outer s H vs Q E hr h => ⟨t__law_pair K C, pss_cons (ps_set (i := 1) sc__law_pair.nd rfl (by first | exact Or.inl rfl | exact Or.inr rfl) (pe_own D__law_closed (hr.mono (by decide)) (by rfl) (pa_cons (pv 0) (pa_cons (pe_int) (pa_nil))))) (pss_cons (ps_set (i := 2) sc__law_pair.nd rfl (by first | exact Or.inl rfl | exact Or.inr rfl) (pe_own D__law_closed (hr.mono (by decide)) (by rfl) (pa_cons (pv 0) (pa_cons (pe_int) (pa_nil))))) (pss_cons (ps_if (pt_cmpR (op_gt) (pe_own D__law_draw (hr.mono (by decide)) (by rfl) (pa_cons (pv 0) (pa_cons (pe_int) (pa_nil)))) (pe_int) (nomark _)) (pss_one (ps_set (i := 2) sc__law_pair.nd rfl (by first | exact Or.inl rfl | exact Or.inr rfl) (pe_own D__law_near (hr.mono (by decide)) (by rfl) (pa_cons (pv 0) (pa_cons (pv 1) (pa_nil)))))) (pss_nil)) (pss_cons (ps_set (i := 3) sc__law_pair.nd rfl (by first | exact Or.inl rfl | exact Or.inr rfl) (pe_lst (pa_cons (pv 1) (pa_cons (pv 2) (pa_nil))))) (pss_cons (ps_for PassesOwn.never rfl (pi_tup (pe_tup (pa_cons (pv 1) (pa_cons (pv 2) (pa_nil))))) (pg_name (i := 4) sc__law_pair.nd rfl (by first | exact Or.inl rfl | exact Or.inr rfl)) (pss_cons (ps_set (i := 5) sc__law_pair.nd rfl (by first | exact Or.inl rfl | exact Or.inr rfl) (pe_own D__law_normal (hr.mono (by decide)) (by rfl) (pa_cons (pv 4) (pa_cons (pe_int) (pa_nil))))) (pss_one (ps_if (pt_cmp (pc_notN (pv 5))) (pss_one (ps_expr (pe_bm PySem.F.plainAttrs_list PySem.F.slot_list_append PySem.F.type_list_append mt_append (pv 3) (pa_cons (pe_own D__law_shrink (hr.mono (by decide)) (by rfl) (pa_cons (pe_ix ix_seq (pv 5) (pe_int) (fun _ _ => rfl)) (pa_nil))) (pa_nil))))) (pss_nil))))) (pss_cons (ps_if (PW.pt (pw_or (pt_cmpR (op_lt) (pe_callB call_len_seq (by rfl) X.len (by decide +kernel) (pa_cons (pv 3) (pa_nil))) (pe_int) (nomark _)) (pw_or (pt_cmpR (op_eqD hr.units) (pe_ix ix_seq (pv 3) (pe_int) (fun _ _ => rfl)) (pe_ix ix_seq (pv 3) (pe_int) (fun _ _ => rfl)) (nomark _)) (pw_or1 (pt_cmpR (op_gt) (pe_callB (cr_max rfl) (by rfl) X.max (by decide +kernel) (pa_cons (pe_lc (own := [("_law_row", 6)]) (g := gName 6) rfl sc__law_pair.nd (pi_list (pv 3)) (blkOk_by (own := [("_law_row", 6)]) (N := n__law_pair) (sc := defScope s__law_pair) (by decide +kernel)) (fun _ _ _ _ _ => pg_name (i := 6) sc__law_pair.nd rfl (by first | exact Or.inl rfl | exact Or.inr rfl)) (fun _ _ _ _ _ => pts_nil) (fun _ _ _ _ _ => pe_callB call_len_seq (by rfl) X.len (by decide +kernel) (pa_cons (pv 6) (pa_nil)))) (pa_nil))) (pe_int) (nomark _)))))) (pss_one (ps_set (i := 3) sc__law_pair.nd rfl (by first | exact Or.inl rfl | exact Or.inr rfl) (pe_lst (pa_cons (pe_tup (pa_cons (pe_str) (pa_cons (pe_str) (pa_cons (pe_int) (pa_nil))))) (pa_cons (pe_tup (pa_cons (pe_str) (pa_cons (pe_str) (pa_cons (pe_int) (pa_nil))))) (pa_cons (pe_tup (pa_cons (pe_str) (pa_cons (pe_str) (pa_cons (pe_int) (pa_nil))))) (pa_cons (pe_tup (pa_cons (pe_str) (pa_cons (pe_str) (pa_cons (pe_int) (pa_nil))))) (pa_nil)))))))) (pss_nil)) (pss_one (ps_ret (pv 3)))))))), run_of (E := E) (c__law_pair K C) h⟩)
end Wk
end
section
set_option Elab.async false
set_option autoImplicit false
set_option linter.all false
set_option maxRecDepth 100000
set_option maxHeartbeats 4000000
/-! law. -/
namespace Wk
open PySem L2 Dl Dx Lam
def sel {α : Type} (k : Nat) (a b : α) : α := if k = 0 then a else b
/-- what the plain part shows -/
structure Math : Prop where
  lead : ∀ (u v : Tm) (k : Nat), Two 40 0 u v → k < 2 → leadsM 400 (apps (sel k u v) (args u v)) (proj k 2) ≠ some false
  ends : ∀ (u v : Tm) (k : Nat) (e0 e1 : Tm), Two 40 0 u v → k < 2 → nf e0 = true → nf e1 = true → leadsM 400 (apps (sel k u v) (args u v ++ [e0, e1])) (sel k e0 e1) ≠ some false
  red : ∀ (u v : Tm) (k : Nat), Two 40 0 u v → k < 2 → Betas (apps (sel k u v) (args u v)) (proj k 2)
  small : ∀ (u v : Tm), Two 40 0 u v → size u + size v < 13 → okA (args u v) ∧ ∀ k, k < 2 → leadsM 400 (apps (sel k u v) (args u v)) (proj k 2) = some true
theorem betas_apps {t u : Tm} (h : Betas t u) : ∀ as : List Tm, Betas (apps t as) (apps u as)
  | [] => h
  | a :: as => betas_apps (t := .app t a) (u := .app u a) (h.map (fun z => Tm.app z a) fun _ _ r => .one (.appl r)) as
theorem etas_apps {t u : Tm} (h : Etas t u) : ∀ as : List Tm, Etas (apps t as) (apps u as)
  | [] => h
  | a :: as => etas_apps (t := .app t a) (u := .app u a) (Etas.app h) as
theorem sizes_le {b : Nat} : ∀ {as : List Tm}, (∀ a ∈ as, size a ≤ b) → sizes as ≤ b * as.length
  | [], _ => by simp [sizes]
  | a :: as, h => by
    have h1 := h a List.mem_cons_self
    have h2 := sizes_le (as := as) fun x hx => h x (List.mem_cons_of_mem _ hx)
    rw [sizes_cons, List.length_cons, Nat.mul_add]
    omega
theorem apps_fit {t : Tm} {as : List Tm} (h : okA as) (ht : size t ≤ 60) : size (apps t as) < 890000 := by
  have := sizes_le h.2
  have := h.1
  rw [size_apps2]
  omega
section
variable {K : PySem.W.Frag} {C : Addr} {S : List Sl}
theorem t_isF {te : TE} {o : Option Bool} (h : VlD K C te S (dOB o)) (hn : o ≠ some false) : TsD K C (tTest (tOp rIsBN te (tC (.bl false)))) S (fun b => b = false) := by
  cases o with
  | none => exact t_testV (v_op h e_bl o_isNB)
  | some b =>
    cases b with
    | false => exact absurd rfl hn
    | true => exact t_testV (v_op h e_bl o_isBB)
end
theorem proj_nf (k : Nat) : nf (proj k 2) = true := rfl
theorem proj_en (k : Nat) : en (proj k 2) = true := rfl
def sp_law (K : PySem.W.Frag) (C : Addr) : Sp := fun vs H Q _ => ∃ (a : Addr) (ns : List Int), vs = [.ref a] ∧ SqL K H a (ns.map V.int) ∧ ∀ H', Q (.bl true) H'
theorem spL_len {K : PySem.W.Frag} {C : Addr} (vs : List V) (H : Hp) (Q : VK) (E : XK) (h : sp_law K C vs H Q E) : vs.length = 1 := by
  obtain ⟨a, ns, rfl, _⟩ := h
  rfl
abbrev s_law : Stmt := topS 79
abbrev n_law : List Str := ["_law_script", "_law_stream_here", "_law_rows", "_law_actual", "_law_k", "_law_ends", "_law_small", "_law_due", "_law_found"]
theorem sc_law : FnScope n_law ["_law_script"] (defScope s_law) := ⟨rfl, rfl, rfl, by decide +kernel, rfl, by decide +kernel, by decide +kernel⟩
-- calls: ['_law_applied', '_law_becomes', '_law_draw', '_law_form', '_law_normal', '_law_pair', '_law_projection', '_law_shrink', '_law_stream', '_law_tell']; level 31; slots: 0:_law_script 1:_law_stream_here 2:_law_rows 3:_law_actual 4:_law_k 5:_law_ends 6:_law_small 7:_law_due 8:_law_found
def r_law (K : PySem.W.Frag) (C : Addr) : TS := tSeq (tAsg (tCall (sp__law_pair K C) [] E0 (tCons (tVar 1) (tNil))) (gName 2)) (tSeq (tAsg (tCall (sp__law_tell K C) [] E0 (tCons (tOp (rIx K) (tVar 2) (tC (.int 2))) (tCons (tOp (rIx K) (tVar 2) (tC (.int 3))) (tNil)))) (gName 3)) (tSeq (tIfS (tB (tIsN (tVar 3))) (tRet (tOp (rGtI) (tOp (rAddI) (tCB (rLenS K) (tCons (tOp (rIx K) (tVar 2) (tC (.int 2))) (tNil))) (tCB (rLenS K) (tCons (tOp (rIx K) (tVar 2) (tC (.int 3))) (tNil)))) (tC (.int 12)))) (tNext)) (tSeq (tIfS (tNot (tB (tIsi K (tVar 3) "list"))) (tRet (tC (.bl false))) (tNext)) (tSeq (tFor (iRng1 (tCons (tC (.int 2)) (tNil))) (gName 4) (tSeq (tAsg (tCall (sp__law_projection K C) [] E0 (tCons (tVar 4) (tCons (tC (.int 2)) (tNil)))) (gName 7)) (tSeq (tIfS (tTest (tOp (rIsBN) (tCall (sp__law_becomes K C) [] E0 (tCons (tOp (rIx K) (tVar 2) (tOp (rAddI) (tC (.int 2)) (tVar 4))) (tCons (tVar 3) (tCons (tVar 7) (tNil))))) (tC (.bl false)))) (tRet (tC (.bl false))) (tNext)) (tSeq (tAsg (tCall (sp__law_normal K C) [] E0 (tCons (tCall (sp__law_applied K C) [] E0 (tCons (tOp (rIx K) (tVar 2) (tVar 4)) (tCons (tVar 3) (tNil)))) (tCons (tC (.int 300)) (tNil)))) (gName 8)) (tIfS (tAnd (tB (tNotN (tVar 8))) (tTest (tOp (rNeD K) (tCall (sp__law_shrink K C) [] E0 (tCons (tOp (rIx K) (tVar 8) (tC (.int 0))) (tNil))) (tCall (sp__law_shrink K C) [] E0 (tCons (tVar 7) (tNil)))))) (tRet (tC (.bl false))) (tNext)))))) (tSeq (tAsg (tLc (iRng1 (tCons (tC (.int 2)) (tNil))) (gName 4) (tYes) (tCall (sp__law_form K C 13) [] E0 (tCons (tVar 1) (tCons (tC (.int 2)) (tCons (tOp (rAddI) (tC (.int 1)) (tCall (sp__law_draw K C) [] E0 (tCons (tVar 1) (tCons (tC (.int 5)) (tNil))))) (tNil))))) [4]) (gName 5)) (tSeq (tFor (iRng1 (tCons (tC (.int 2)) (tNil))) (gName 4) (tIfS (tTest (tOp (rIsBN) (tCall (sp__law_becomes K C) [] E0 (tCons (tOp (rIx K) (tVar 2) (tOp (rAddI) (tC (.int 2)) (tVar 4))) (tCons (tOp (rCat) (tVar 3) (tVar 5)) (tCons (tOp (rIx K) (tVar 5) (tVar 4)) (tNil))))) (tC (.bl false)))) (tRet (tC (.bl false))) (tNext))) (tSeq (tAsg (tOp (rLtI) (tOp (rAddI) (tCB (rLenS K) (tCons (tOp (rIx K) (tVar 2) (tC (.int 2))) (tNil))) (tCB (rLenS K) (tCons (tOp (rIx K) (tVar 2) (tC (.int 3))) (tNil)))) (tC (.int 13))) (gName 6)) (tSeq (tFor (iRng1 (tCons (tC (.int 2)) (tNil))) (gName 4) (tIfS (tAnd (tB (tVar 6)) (tTest (tOp (rNotBN) (tCall (sp__law_becomes K C) [] E0 (tCons (tOp (rIx K) (tVar 2) (tOp (rAddI) (tC (.int 2)) (tVar 4))) (tCons (tVar 3) (tCons (tCall (sp__law_projection K C) [] E0 (tCons (tVar 4) (tCons (tC (.int 2)) (tNil)))) (tNil))))) (tC (.bl true))))) (tRet (tC (.bl false))) (tNext))) (tRet (tC (.bl true)))))))))))
def t_law (K : PySem.W.Frag) (C : Addr) : TS := tSeq (tAsg (tCall (sp__law_stream K C) [] E0 (tCons (tVar 0) (tNil))) (gName 1)) (tSeq (tAsg (tCall (sp__law_pair K C) [] E0 (tCons (tVar 1) (tNil))) (gName 2)) (tSeq (tAsg (tCall (sp__law_tell K C) [] E0 (tCons (tOp (rIx K) (tVar 2) (tC (.int 2))) (tCons (tOp (rIx K) (tVar 2) (tC (.int 3))) (tNil)))) (gName 3)) (tSeq (tIfS (tB (tIsN (tVar 3))) (tRet (tOp (rGtI) (tOp (rAddI) (tCB (rLenS K) (tCons (tOp (rIx K) (tVar 2) (tC (.int 2))) (tNil))) (tCB (rLenS K) (tCons (tOp (rIx K) (tVar 2) (tC (.int 3))) (tNil)))) (tC (.int 12)))) (tNext)) (tSeq (tIfS (tNot (tB (tIsi K (tVar 3) "list"))) (tRet (tC (.bl false))) (tNext)) (tSeq (tFor (iRng1 (tCons (tC (.int 2)) (tNil))) (gName 4) (tSeq (tAsg (tCall (sp__law_projection K C) [] E0 (tCons (tVar 4) (tCons (tC (.int 2)) (tNil)))) (gName 7)) (tSeq (tIfS (tTest (tOp (rIsBN) (tCall (sp__law_becomes K C) [] E0 (tCons (tOp (rIx K) (tVar 2) (tOp (rAddI) (tC (.int 2)) (tVar 4))) (tCons (tVar 3) (tCons (tVar 7) (tNil))))) (tC (.bl false)))) (tRet (tC (.bl false))) (tNext)) (tSeq (tAsg (tCall (sp__law_normal K C) [] E0 (tCons (tCall (sp__law_applied K C) [] E0 (tCons (tOp (rIx K) (tVar 2) (tVar 4)) (tCons (tVar 3) (tNil)))) (tCons (tC (.int 300)) (tNil)))) (gName 8)) (tIfS (tAnd (tB (tNotN (tVar 8))) (tTest (tOp (rNeD K) (tCall (sp__law_shrink K C) [] E0 (tCons (tOp (rIx K) (tVar 8) (tC (.int 0))) (tNil))) (tCall (sp__law_shrink K C) [] E0 (tCons (tVar 7) (tNil)))))) (tRet (tC (.bl false))) (tNext)))))) (tSeq (tAsg (tLc (iRng1 (tCons (tC (.int 2)) (tNil))) (gName 4) (tYes) (tCall (sp__law_form K C 13) [] E0 (tCons (tVar 1) (tCons (tC (.int 2)) (tCons (tOp (rAddI) (tC (.int 1)) (tCall (sp__law_draw K C) [] E0 (tCons (tVar 1) (tCons (tC (.int 5)) (tNil))))) (tNil))))) [4]) (gName 5)) (tSeq (tFor (iRng1 (tCons (tC (.int 2)) (tNil))) (gName 4) (tIfS (tTest (tOp (rIsBN) (tCall (sp__law_becomes K C) [] E0 (tCons (tOp (rIx K) (tVar 2) (tOp (rAddI) (tC (.int 2)) (tVar 4))) (tCons (tOp (rCat) (tVar 3) (tVar 5)) (tCons (tOp (rIx K) (tVar 5) (tVar 4)) (tNil))))) (tC (.bl false)))) (tRet (tC (.bl false))) (tNext))) (tSeq (tAsg (tOp (rLtI) (tOp (rAddI) (tCB (rLenS K) (tCons (tOp (rIx K) (tVar 2) (tC (.int 2))) (tNil))) (tCB (rLenS K) (tCons (tOp (rIx K) (tVar 2) (tC (.int 3))) (tNil)))) (tC (.int 13))) (gName 6)) (tSeq (tFor (iRng1 (tCons (tC (.int 2)) (tNil))) (gName 4) (tIfS (tAnd (tB (tVar 6)) (tTest (tOp (rNotBN) (tCall (sp__law_becomes K C) [] E0 (tCons (tOp (rIx K) (tVar 2) (tOp (rAddI) (tC (.int 2)) (tVar 4))) (tCons (tVar 3) (tCons (tCall (sp__law_projection K C) [] E0 (tCons (tVar 4) (tCons (tC (.int 2)) (tNil)))) (tNil))))) (tC (.bl true))))) (tRet (tC (.bl false))) (tNext))) (tRet (tC (.bl true))))))))))))
theorem cm_law (K : PySem.W.Frag) (C : Addr) (MM : Math) : CmD K C (r_law K C) [.un, .st, .un, .un, .un, .un, .un, .un, .un] no (fun d => d = .bl true) no no := by
  refine q_setE (v_call () (a_stV rfl a_nil) trivial) ?_
  rintro d ⟨a, b, u, v, rfl, hP⟩
  have ix : ∀ k : Nat, k < 4 → ∀ i : Int, i = (k : Int) → atI (dT [a, b, u, v]) i = some (tmD (nth [a, b, u, v] k)) := fun k hk i e => dT_at (by simpa using hk) e
  have i2 : atI (dT [a, b, u, v]) 2 = some (tmD u) := ix 2 (by decide) 2 rfl
  have i3 : atI (dT [a, b, u, v]) 3 = some (tmD v) := ix 3 (by decide) 3 rfl
  have two := hP.two
  have lens : ∀ (S : List Sl), S[2]? = some (.im (.lst (dT [a, b, u, v]))) → VlD K C (tOp (rAddI) (tCB (rLenS K) (tCons (tOp (rIx K) (tVar 2) (tC (.int 2))) (tNil))) (tCB (rLenS K) (tCons (tOp (rIx K) (tVar 2) (tC (.int 3))) (tNil)))) S (.int ((size u + size v : Nat) : Int)) := fun S hS => by
    refine v_is (v_op (v_cb (ds := [tmD u]) (a_consV (v_op (e_var hS) e_int (o_ixL i2)) a_nil) k_lenT) (v_cb (ds := [tmD v]) (a_consV (v_op (e_var hS) e_int (o_ixL i3)) a_nil) k_lenT) o_add) ?_
    rw [enc_len, enc_len, Int.natCast_add]
  refine q_setE (v_call (⟨u, v⟩ : G2) (a_consV (v_op (e_var rfl) e_int (o_ixL i2)) (a_consV (v_op (e_var rfl) e_int (o_ixL i3)) a_nil)) ⟨two⟩) ?_
  rintro d (⟨rfl, hbad⟩ | ⟨rfl, hok⟩)
  · have h13 : ¬ size u + size v < 13 := fun h => hbad (MM.small u v two h).1
    refine q_yes (t_bV (v_isN (b := true) (e_var rfl) (fun B v rv => by cases rv; rfl))) (q_ret (v_is (v_op (lens _ rfl) e_int o_gt) ?_) rfl)
    rw [decide_eq_true (by omega)]
  have hok : okA (args u v) := hok
  show CmD K C _ [.un, .st, .im (.lst (dT [a, b, u, v])), .im (.lst (dT (args u v))), .un, .un, .un, .un, .un] _ _ _ _
  have hM1 := fun k hk => MM.lead u v k two hk
  have hM2 := fun k e0 e1 hk => MM.ends u v k e0 e1 two hk
  have hM3 := fun k hk => MM.red u v k two hk
  have hM4 := fun h => (MM.small u v two h).2
  have hsu : size u ≤ 60 := by have := two.st; omega
  have hsv : size v ≤ 60 := by have := two.su; omega
  generalize args u v = AS at *
  refine q_no (t_bV (v_isN (b := false) (e_var rfl) (fun B v rv => by cases rv; rfl))) (q_next ?_)
  refine q_no (t_notV (a := true) (t_bV (v_isiL (e_var rfl)))) (q_next ?_)
  have row : ∀ k : Nat, k < 2 → ∀ i : Int, i = 2 + (k : Int) → atI (dT [a, b, u, v]) i = some (tmD (sel k u v)) := fun k hk i e => by
    match k, hk with
    | 0, _ => exact (ix 2 (by decide) i (by omega))
    | 1, _ => exact (ix 3 (by decide) i (by omega))
  have row0 : ∀ k : Nat, k < 2 → ∀ i : Int, i = (k : Int) → atI (dT [a, b, u, v]) i = some (tmD (sel k a b)) := fun k hk i e => by
    match k, hk with
    | 0, _ => exact (ix 0 (by decide) i (by omega))
    | 1, _ => exact (ix 1 (by decide) i (by omega))
  have hsel : ∀ k, size (sel k u v) ≤ 60 := fun k => by unfold sel; split <;> omega
  have hsel0 : ∀ k, size (sel k a b) ≤ 60 := fun k => by unfold sel; split; exact hP.sa; exact hP.sb
  have hcv : ∀ k, Cv (sel k a b) (sel k u v) := fun k => by unfold sel; split; exact hP.cu; exact hP.cv
  -- the first loop
  refine q_for (it_rng1 (n := 2) e_int (by decide) (by decide)) (fun i S1 => ∃ (z4 z7 z8 : Sl), z4.own = false ∧ z7.own = false ∧ z8.own = false ∧ S1 = [.un, .st, .im (.lst (dT [a, b, u, v])), .im (.lst (dT AS)), z4, .un, .un, z7, z8]) no ⟨.un, .un, .un, rfl, rfl, rfl, rfl⟩ ?_ ?_ (fun _ h => h.elim)
  · rintro k d S1 hk ⟨z4, z7, z8, h4, h7, h8, rfl⟩
    obtain ⟨hk1, rfl⟩ := rng_at hk
    have hk2 : k < 2 := hk1
    refine ⟨_, tg_name, ?_⟩
    refine q_setE (v_call (⟨k, 2⟩ : GProj) (a_is (a_consV (e_var rfl) (a_consV e_int a_nil)) rfl) ⟨hk2, by show 2 ≤ 1000; decide⟩) ?_
    rintro d rfl
    refine q_no (t_isF (v_call (⟨sel k u v, AS, proj k 2⟩ : GBec) (a_consV (v_op (e_var rfl) (v_op e_int (e_var rfl) o_add) (o_ixL (row k hk2 _ rfl))) (a_consV (e_var rfl) (a_consV (e_var rfl) a_nil))) (by have := apps_fit hok (hsel k); show size (apps (sel k u v) AS) < 900000; omega)) (hM1 k hk2)) (q_next ?_)
    refine q_setE (v_call (⟨apps (sel k a b) AS, 300⟩ : GNorm) (a_is (a_consV (v_call (⟨sel k a b, AS⟩ : GApp) (a_consV (v_op (e_var rfl) (e_var rfl) (o_ixL (row0 k hk2 _ rfl))) (a_consV (e_var rfl) a_nil)) (by have := apps_fit hok (hsel0 k); show size (apps (sel k a b) AS) < 900000; omega)) (a_consV e_int a_nil)) rfl) ⟨by have := apps_fit hok (hsel0 k); show size (apps (sel k a b) AS) < 900000; omega, by show 300 ≤ 1000; decide⟩) ?_
    rintro d (rfl | ⟨N, j, rfl, n1, n2, n3⟩)
    · exact c_no (ts_is (t_andV (a := false) (b := false) (t_bV (v_notN (b := false) (e_var rfl) (fun B v rv => by cases rv; rfl))) fun e => by cases e) rfl) (c_next ⟨.im (.int (k : Int)), .im (tmD (proj k 2)), .im .non, rfl, rfl, rfl, rfl⟩)
    · have n3' : size N < 1000000 := by
        have h1 : size N ≤ size (apps (sel k a b) AS) + 1000 := n3
        have h2 := apps_fit hok (hsel0 k)
        omega
      refine c_no (ts_is (t_andV (a := true) (b := false) (t_bV (v_notN (b := true) (e_var rfl) (fun B v rv => by cases rv; rfl))) fun _ => t_test (e_op (P := pShr N) (Q' := fun _ => pShr (proj k 2)) (v_call N (a_consV (v_op (e_var rfl) e_int (o_ixT (d := tmD N) (atI_pos (n := 0) rfl))) a_nil) n3') (fun _ _ => v_call (proj k 2) (a_consV (e_var rfl) a_nil) (by rw [size_proj]; decide)) fun x y ⟨s1, e1, p1, p2, p3⟩ ⟨s2, e2, q1, q2, q3⟩ => ?_)) rfl) (c_next ⟨.im (.int (k : Int)), .im (tmD (proj k 2)), .im (.tup [tmD N, .int (j : Int)]), rfl, rfl, rfl, rfl⟩)
      subst e1 e2
      obtain ⟨M, m1, m2, m3⟩ := (hcv k).ex
      have es : s1 = proj k 2 := meet_shr n1 n2 (betas_apps m1 AS) (etas_apps m3 AS) (hM3 k hk2) (proj_nf k) (proj_en k) p1 p2
      have es2 : s2 = proj k 2 := by
        have := Etas.shr q1
        rw [shr_en (proj_en k), shr_en q2] at this
        exact this.symm
      subst es2
      exact op_mono (o_neD (isq_enc s1) (isq_enc _) (by decide) (by decide) (b := true) (encT_iff (by simp [es]))) fun d e => ⟨_, e, rfl⟩
  rintro S1 ⟨z4, z7, z8, h4, h7, h8, rfl⟩
  refine c_un (j := 4) ?_ (by intro s hs; cases hs; exact h4)
  -- the ends
  refine q_setE (P := fun d => ∃ es : List Tm, d = .lst (dT es) ∧ es.length = 2 ∧ ∀ e ∈ es, nf e = true ∧ size e ≤ 20) ((e_lc1 (it_rng1 (n := 2) e_int (by decide) (by decide)) rfl (fun i acc => ∃ es : List Tm, acc = dT es ∧ es.length = i ∧ ∀ e ∈ es, nf e = true ∧ size e ≤ 20) ⟨[], rfl, rfl, by simp⟩ (fun i d acc hi hacc => ⟨_, t_yes, fun _ => ?_, fun e => by cases e⟩) (by rw [rngD_len]; decide)).mono fun d ⟨acc, e, ⟨es, h1, h2, h3⟩, _⟩ => ⟨es, by rw [e, h1], by rw [h2, rngD_len]; rfl, h3⟩) ?_
  · obtain ⟨es, rfl, he1, he2⟩ := hacc
    refine e_call (P := fun ss => ∃ w : Nat, 1 ≤ w ∧ w ≤ 5 ∧ ss = aB ⟨2, w⟩) ?_ fun ss ⟨w, w1, w2, e⟩ => ⟨(⟨2, w⟩ : GB), e, rfl, ⟨by show w < 13; omega, by decide, by show 2 + w ≤ 1000; omega, w1⟩, fun d ⟨t, e, f1, f2, f3⟩ => ⟨es ++ [t], by rw [e, dT_app]; rfl, by simp [he1], fun x hx => ?_⟩⟩
    · refine (a_st rfl (a_cons e_int (a_cons (e_op e_int (fun _ _ => (v_call 5 (a_is (a_stV rfl (a_consV e_int a_nil)) rfl) (by decide) : EvD K C (tCall (sp__law_draw K C) [] E0 (tCons (tVar 1) (tCons (tC (.int 5)) (tNil)))) _ (fun d => ∃ v : Nat, v < 5 ∧ d = .int (v : Int)))) (R := fun d => ∃ w : Nat, 1 ≤ w ∧ w ≤ 5 ∧ d = .int (w : Int)) fun x y ex ⟨v, hv, ey⟩ => ?_) a_nil))).mono ?_
      · subst ex ey
        exact op_mono o_add fun d e => ⟨v + 1, by omega, by omega, by rw [e]; congr 1; omega⟩
      · rintro ss ⟨r, rfl, d, r2, rfl, rfl, d3, r4, rfl, ⟨w, w1, w2, rfl⟩, rfl⟩
        exact ⟨w, w1, w2, rfl⟩
    · rcases List.mem_append.mp hx with hx | hx
      · exact he2 x hx
      · rw [List.mem_singleton] at hx
        subst hx
        have h4 : size x ≤ 2 * w + 1 := f3
        exact ⟨f2, by omega⟩
  rintro d ⟨es, rfl, hl, hes⟩
  obtain ⟨x0, x1, rfl⟩ : ∃ x0 x1, es = [x0, x1] := by
    match es, hl with
    | [x0, x1], _ => exact ⟨x0, x1, rfl⟩
  have hx0 := hes x0 (by simp)
  have hx1 := hes x1 (by simp)
  have rowE : ∀ k : Nat, k < 2 → ∀ i : Int, i = (k : Int) → atI (dT [x0, x1]) i = some (tmD (sel k x0 x1)) := fun k hk i e => by
    match k, hk with
    | 0, _ => exact dT_at (k := 0) (by simp) e
    | 1, _ => exact dT_at (k := 1) (by simp) e
  have fitE : ∀ k, size (apps (sel k u v) (AS ++ [x0, x1])) < 900000 := fun k => by
    have h1 := apps_fit hok (hsel k)
    rw [size_apps2] at h1 ⊢
    rw [sizes_app, List.length_append]
    simp only [sizes, List.map_cons, List.map_nil, List.sum_cons, List.sum_nil, List.length_cons, List.length_nil] at h1 ⊢
    omega
  refine q_for (it_rng1 (n := 2) e_int (by decide) (by decide)) (fun i S1 => ∃ z4 : Sl, S1 = [.un, .st, .im (.lst (dT [a, b, u, v])), .im (.lst (dT AS)), z4, .im (.lst (dT [x0, x1])), .un, z7, z8]) no ⟨.un, rfl⟩ ?_ ?_ (fun _ h => h.elim)
  · rintro k d S1 hk ⟨z4, rfl⟩
    obtain ⟨hk1, rfl⟩ := rng_at hk
    have hk2 : k < 2 := hk1
    refine ⟨_, tg_name, ?_⟩
    refine c_no (t_isF (v_call (⟨sel k u v, AS ++ [x0, x1], sel k x0 x1⟩ : GBec) (a_is (a_consV (v_op (e_var rfl) (v_op e_int (e_var rfl) o_add) (o_ixL (row k hk2 _ rfl))) (a_consV (v_op (e_var rfl) (e_var rfl) (o_catL (by rw [dT_len, dT_len]; have := hok.1; simp; omega))) (a_consV (v_op (e_var rfl) (e_var rfl) (o_ixL (rowE k hk2 _ rfl))) a_nil))) (by simp only [aBec]; rw [dT_app])) (fitE k)) (hM2 k x0 x1 hk2 hx0.1 hx1.1)) (c_next ⟨.im (.int (k : Int)), rfl⟩)
  rintro S1 ⟨y4, rfl⟩
  refine q_set (v_op (lens _ rfl) e_int o_lt) ?_
  refine q_for (it_rng1 (n := 2) e_int (by decide) (by decide)) (fun i S1 => ∃ z4 : Sl, S1 = [.un, .st, .im (.lst (dT [a, b, u, v])), .im (.lst (dT AS)), z4, .im (.lst (dT [x0, x1])), .im (.bl (decide (((size u + size v : Nat) : Int) < 13))), z7, z8]) no ⟨y4, rfl⟩ ?_ ?_ (fun _ h => h.elim)
  · rintro k d S1 hk ⟨z4, rfl⟩
    obtain ⟨hk1, rfl⟩ := rng_at hk
    have hk2 : k < 2 := hk1
    refine ⟨_, tg_name, ?_⟩
    refine c_no (ts_is (t_andV (a := decide (((size u + size v : Nat) : Int) < 13)) (b := false) (t_bV (e_var rfl)) fun hb => ?_) (by simp)) (c_next ⟨.im (.int (k : Int)), rfl⟩)
    have h13 : size u + size v < 13 := by have := of_decide_eq_true hb; omega
    have hT := hM4 h13 k hk2
    have hv : VlD K C (tCall (sp__law_becomes K C) [] E0 (tCons (tOp (rIx K) (tVar 2) (tOp (rAddI) (tC (.int 2)) (tVar 4))) (tCons (tVar 3) (tCons (tCall (sp__law_projection K C) [] E0 (tCons (tVar 4) (tCons (tC (.int 2)) (tNil)))) (tNil))))) [.un, .st, .im (.lst (dT [a, b, u, v])), .im (.lst (dT AS)), .im (.int (k : Int)), .im (.lst (dT [x0, x1])), .im (.bl (decide (((size u + size v : Nat) : Int) < 13))), z7, z8] (dOB (leadsM 400 (apps (sel k u v) AS) (proj k 2))) :=
      v_call (⟨sel k u v, AS, proj k 2⟩ : GBec) (a_consV (v_op (e_var rfl) (v_op e_int (e_var rfl) o_add) (o_ixL (row k hk2 _ rfl))) (a_consV (e_var rfl) (a_consV (v_call (⟨k, 2⟩ : GProj) (a_is (a_consV (e_var rfl) (a_consV e_int a_nil)) rfl) ⟨hk2, by show 2 ≤ 1000; decide⟩) a_nil))) (by have := apps_fit hok (hsel k); show size (apps (sel k u v) AS) < 900000; omega)
    rw [hT] at hv
    exact t_testV (v_op hv e_bl o_notBB)
  · rintro S1 ⟨z4, rfl⟩
    exact c_retV e_bl rfl
theorem c_law (K : PySem.W.Frag) (C : Addr) (MM : Math) {vs : List V} {H : Hp} {Q : VK} {E : XK} (h : sp_law K C vs H Q E) : t_law K C { nx := fun _ H' => Q .non H', rt := Q } (L2.start n_law vs) H := by
  obtain ⟨a, ns, rfl, hq, q⟩ := h
  show tSeq (tAsg (tCall (sp__law_stream K C) [] E0 (tCons (tVar 0) tNil)) (gName 1)) (r_law K C) { nx := fun _ H' => Q .non H', rt := Q } (L2.start n_law [.ref a]) H
  have nz : ∀ x, ¬ Zat none x := fun x ⟨l, n, e⟩ => by cases e
  have hold : Holds K C none H H (L2.start n_law [.ref a]) [.sq a (ns.map V.int), .un, .un, .un, .un, .un, .un, .un, .un] := by
    refine ⟨rfl, fun _ _ e => e, ⟨fun p l n e => by cases e⟩, fun i s es => ?_, fun i j s t _ e1 _ o1 _ => ?_⟩
    · match i, es with
      | 0, es => cases es; exact ⟨rfl, hq⟩
      | 1, es => cases es; trivial
      | 2, es => cases es; trivial
      | 3, es => cases es; trivial
      | 4, es => cases es; trivial
      | 5, es => cases es; trivial
      | 6, es => cases es; trivial
      | 7, es => cases es; trivial
      | 8, es => cases es; trivial
      | i + 9, es => simp at es
    · match i, e1 with
      | 0, e1 => cases e1; cases o1
      | 1, e1 => cases e1; cases o1
      | 2, e1 => cases e1; cases o1
      | 3, e1 => cases e1; cases o1
      | 4, e1 => cases e1; cases o1
      | 5, e1 => cases e1; cases o1
      | 6, e1 => cases e1; cases o1
      | 7, e1 => cases e1; cases o1
      | 8, e1 => cases e1; cases o1
      | i + 9, e1 => simp at e1
  have hc : EvD K C (tCall (sp__law_stream K C) [] E0 (tCons (tVar 0) tNil)) [.sq a (ns.map V.int), .un, .un, .un, .un, .un, .un, .un, .un] (pStr ⟨a, ns⟩) := v_call (⟨a, ns⟩ : GStr) (a_sqV rfl a_nil) trivial
  refine hc none H H (L2.start n_law [.ref a]) _ hold fun v d B1 H1 ⟨c, hc1, ed⟩ P1 r1 => ?_
  subst ed
  cases r1 with
  | @lst p vs _ hp rr =>
    cases rr with
    | cons r1 rr =>
      cases rr with
      | cons r2 rr =>
        cases rr with
        | cons r3 rr =>
          cases rr with
          | cons r4 rr =>
            cases rr
            cases r2
            cases r3
            cases r4
            cases r1 with
            | @lst l ws _ hl rl =>
              have e := rl.ints_inv
              subst e
              have hpl : l ≠ p := fun z => by
                rw [z, hp] at hl
                cases ns with
                | nil => cases hl
                | cons n ns => cases hl
              let B2 : Hp := fun x => if x = p then none else B1 x
              have b2 : ∀ x, x ≠ p → B2 x = B1 x := fun x hx => if_neg hx
              have b2p : B2 p = none := if_pos rfl
              have sub2 : Same B2 H1 := fun x o e => by
                by_cases z : x = p
                · rw [z, b2p] at e; cases e
                · rw [b2 x z] at e; exact P1.sub2 x o e
              have hold2 : Holds K C (some (p, l, ns)) B2 H1 ((L2.start n_law [.ref a]).set 1 (some (.ref p))) [.un, .st, .un, .un, .un, .un, .un, .un, .un] := by
                refine ⟨rfl, sub2, ⟨fun p' l' n' e => ?_⟩, fun i s es => ?_, fun i j s t _ e1 _ o1 _ => ?_⟩
                · cases e
                  exact ⟨b2p, SqL.of (by rw [b2 l hpl]; exact hl), 0, 0, ⟨c, hc1⟩, P1.sub2 _ _ hp⟩
                · match i, es with
                  | 0, es => cases es; trivial
                  | 1, es => cases es; exact ⟨p, rfl, l, ns, rfl⟩
                  | 2, es => cases es; trivial
                  | 3, es => cases es; trivial
                  | 4, es => cases es; trivial
                  | 5, es => cases es; trivial
                  | 6, es => cases es; trivial
                  | 7, es => cases es; trivial
                  | 8, es => cases es; trivial
                  | i + 9, es => simp at es
                · match i, e1 with
                  | 0, e1 => cases e1; cases o1
                  | 1, e1 => cases e1; cases o1
                  | 2, e1 => cases e1; cases o1
                  | 3, e1 => cases e1; cases o1
                  | 4, e1 => cases e1; cases o1
                  | 5, e1 => cases e1; cases o1
                  | 6, e1 => cases e1; cases o1
                  | 7, e1 => cases e1; cases o1
                  | 8, e1 => cases e1; cases o1
                  | i + 9, e1 => simp at e1
              exact cm_law K C MM _ _ _ _ _ hold2 (fun _ _ _ _ hN _ => hN.elim) (fun v d B' H' hR f r => by subst hR; cases r; exact q H') (fun _ _ _ _ hN _ => hN.elim) (fun _ _ _ _ hN _ => hN.elim)
theorem ok_law {P : Program} {w : World} {K : PySem.W.Frag} {mg : Str → Option Value} {base : Heap} {C aI f : Addr} {fd : FuncData} (X : Tx K mg C aI) (F : Fun K "law" "law" s_law f fd) (MM : Math) (D__law_applied : Df P w K mg base 1 "_law_applied" ["_law_term", "_law_rows"] (sp__law_applied K C)) (D__law_becomes : Df P w K mg base 6 "_law_becomes" ["_law_term", "_law_rows", "_law_due"] (sp__law_becomes K C)) (D__law_draw : Df P w K mg base 1 "_law_draw" ["_law_stream_here", "_law_many"] (sp__law_draw K C)) (D__law_form : Df P w K mg base 15 "_law_form" ["_law_stream_here", "_law_widest", "_law_size"] (sp__law_form K C 13)) (D__law_normal : Df P w K mg base 5 "_law_normal" ["_law_term", "_law_steps"] (sp__law_normal K C)) (D__law_pair : Df P w K mg base 30 "_law_pair" ["_law_stream_here"] (sp__law_pair K C)) (D__law_projection : Df P w K mg base 1 "_law_projection" ["_law_index", "_law_count"] (sp__law_projection K C)) (D__law_shrink : Df P w K mg base 2 "_law_shrink" ["_law_term"] (sp__law_shrink K C)) (D__law_stream : Df P w K mg base 1 "_law_stream" ["_law_script"] (sp__law_stream K C)) (D__law_tell : Df P w K mg base 12 "_law_tell" ["_law_first", "_law_second"] (sp__law_tell K C)) :
    FnOk P w K mg base CX0 31 f fd ["_law_script"] (sp_law K C) :=
  (F.ok sc_law spL_len fun cdv A outer s H vs Q E hr h => ⟨t_law K C, pss_cons (ps_set (i := 1) sc_law.nd rfl (by first | exact Or.inl rfl | exact Or.inr rfl) (pe_own D__law_stream (hr.mono (by decide)) (by rfl) (pa_cons (pv 0) (pa_nil)))) (pss_cons (ps_set (i := 2) sc_law.nd rfl (by first | exact Or.inl rfl | exact Or.inr rfl) (pe_own D__law_pair (hr.mono (by decide)) (by rfl) (pa_cons (pv 1) (pa_nil)))) (pss_cons (ps_set (i := 3) sc_law.nd rfl (by first | exact Or.inl rfl | exact Or.inr rfl) (pe_own D__law_tell (hr.mono (by decide)) (by rfl) (pa_cons (pe_ix ix_seq (pv 2) (pe_int) (fun _ _ => rfl)) (pa_cons (pe_ix ix_seq (pv 2) (pe_int) (fun _ _ => rfl)) (pa_nil))))) (pss_cons (ps_if (pt_cmp (pc_isN (pv 3))) (pss_one (ps_ret (pe_cmpR (op_gt) (pe_op op_add (pe_callB call_len_seq (by rfl) X.len (by decide +kernel) (pa_cons (pe_ix ix_seq (pv 2) (pe_int) (fun _ _ => rfl)) (pa_nil))) (pe_callB call_len_seq (by rfl) X.len (by decide +kernel) (pa_cons (pe_ix ix_seq (pv 2) (pe_int) (fun _ _ => rfl)) (pa_nil)))) (pe_int) (nomark _)))) (pss_nil)) (pss_cons (ps_if (pt_not (pt_val (pe_callB call_isi (by rfl) X.isinstance (by decide +kernel) (pa_cons (pv 3) (pa_cons (pe_bltn (v := .ty "list") (by rfl) X.list (by decide +kernel) rfl) pa_nil))))) (pss_one (ps_ret (pe_bl))) (pss_nil)) (pss_cons (ps_for PassesOwn.never rfl (pi_range1 (by rfl) X.range (pa_cons (pe_int) (pa_nil))) (pg_name (i := 4) sc_law.nd rfl (by first | exact Or.inl rfl | exact Or.inr rfl)) (pss_cons (ps_set (i := 7) sc_law.nd rfl (by first | exact Or.inl rfl | exact Or.inr rfl) (pe_own D__law_projection (hr.mono (by decide)) (by rfl) (pa_cons (pv 4) (pa_cons (pe_int) (pa_nil))))) (pss_cons (ps_if (pt_cmpR (op_isBN) (pe_own D__law_becomes (hr.mono (by decide)) (by rfl) (pa_cons (pe_ix ix_seq (pv 2) (pe_op op_add (pe_int) (pv 4)) (fun _ _ => rfl)) (pa_cons (pv 3) (pa_cons (pv 7) (pa_nil))))) (pe_bl) (nomark _)) (pss_one (ps_ret (pe_bl))) (pss_nil)) (pss_cons (ps_set (i := 8) sc_law.nd rfl (by first | exact Or.inl rfl | exact Or.inr rfl) (pe_own D__law_normal (hr.mono (by decide)) (by rfl) (pa_cons (pe_own D__law_applied (hr.mono (by decide)) (by rfl) (pa_cons (pe_ix ix_seq (pv 2) (pv 4) (fun _ _ => rfl)) (pa_cons (pv 3) (pa_nil)))) (pa_cons (pe_int) (pa_nil))))) (pss_one (ps_if (PW.pt (pw_and (pt_cmp (pc_notN (pv 8))) (pw_and1 (pt_cmpR (op_neD hr.units) (pe_own D__law_shrink (hr.mono (by decide)) (by rfl) (pa_cons (pe_ix ix_seq (pv 8) (pe_int) (fun _ _ => rfl)) (pa_nil))) (pe_own D__law_shrink (hr.mono (by decide)) (by rfl) (pa_cons (pv 7) (pa_nil))) (nomark _))))) (pss_one (ps_ret (pe_bl))) (pss_nil))))))) (pss_cons (ps_setLc (i := 5) (own := [("_law_k", 4)]) (g := gName 4) rfl sc_law.nd rfl rfl (sw_true rfl rfl rfl (by decide +kernel)) (pi_range1 (by rfl) X.range (pa_cons (pe_int) (pa_nil))) (blkOk_by (own := [("_law_k", 4)]) (N := n_law) (sc := defScope s_law) (by decide +kernel)) (fun _ _ _ _ _ => pg_name (i := 4) sc_law.nd rfl (by first | exact Or.inl rfl | exact Or.inr rfl)) (fun _ _ _ _ _ => pts_nil) (fun _ _ _ _ _ => pe_own D__law_form (hr.mono (by omega)) (by rfl) (pa_cons (pv 1) (pa_cons (pe_int) (pa_cons (pe_op op_add (pe_int) (pe_own D__law_draw (hr.mono (by decide)) (by rfl) (pa_cons (pv 1) (pa_cons (pe_int) (pa_nil))))) (pa_nil)))))) (pss_cons (ps_for PassesOwn.never rfl (pi_range1 (by rfl) X.range (pa_cons (pe_int) (pa_nil))) (pg_name (i := 4) sc_law.nd rfl (by first | exact Or.inl rfl | exact Or.inr rfl)) (pss_one (ps_if (pt_cmpR (op_isBN) (pe_own D__law_becomes (hr.mono (by decide)) (by rfl) (pa_cons (pe_ix ix_seq (pv 2) (pe_op op_add (pe_int) (pv 4)) (fun _ _ => rfl)) (pa_cons (pe_op op_cat (pv 3) (pv 5)) (pa_cons (pe_ix ix_seq (pv 5) (pv 4) (fun _ _ => rfl)) (pa_nil))))) (pe_bl) (nomark _)) (pss_one (ps_ret (pe_bl))) (pss_nil)))) (pss_cons (ps_set (i := 6) sc_law.nd rfl (by first | exact Or.inl rfl | exact Or.inr rfl) (pe_cmpR (op_lt) (pe_op op_add (pe_callB call_len_seq (by rfl) X.len (by decide +kernel) (pa_cons (pe_ix ix_seq (pv 2) (pe_int) (fun _ _ => rfl)) (pa_nil))) (pe_callB call_len_seq (by rfl) X.len (by decide +kernel) (pa_cons (pe_ix ix_seq (pv 2) (pe_int) (fun _ _ => rfl)) (pa_nil)))) (pe_int) (nomark _))) (pss_cons (ps_for PassesOwn.never rfl (pi_range1 (by rfl) X.range (pa_cons (pe_int) (pa_nil))) (pg_name (i := 4) sc_law.nd rfl (by first | exact Or.inl rfl | exact Or.inr rfl)) (pss_one (ps_if (PW.pt (pw_and (pt_val (pv 6)) (pw_and1 (pt_cmpR (op_notBN) (pe_own D__law_becomes (hr.mono (by decide)) (by rfl) (pa_cons (pe_ix ix_seq (pv 2) (pe_op op_add (pe_int) (pv 4)) (fun _ _ => rfl)) (pa_cons (pv 3) (pa_cons (pe_own D__law_projection (hr.mono (by decide)) (by rfl) (pa_cons (pv 4) (pa_cons (pe_int) (pa_nil)))) (pa_nil))))) (pe_bl) (nomark _))))) (pss_one (ps_ret (pe_bl))) (pss_nil)))) (pss_one (ps_ret (pe_bl)))))))))))), (c_law K C MM h)⟩)
end Wk
end
section
set_option Elab.async false
set_option autoImplicit false
set_option linter.all false
set_option maxRecDepth 100000
set_option maxHeartbeats 4000000
/-! Plain: head steps with their number and the sizes on the way; substitutions; combinators. -/
namespace Wk
open PySem L2 Dl Lam
/-- n head steps from t to u, nothing on the way larger than M -/
inductive HR (M : Nat) : Nat → Tm → Tm → Prop
  | refl (t : Tm) : HR M 0 t t
  | step {n : Nat} {b a : Tm} {as : List Tm} {u : Tm} : size (apps (inst b a) as) ≤ M → HR M n (apps (inst b a) as) u → HR M (n + 1) (apps (.app (.lam b) a) as) u
theorem HR.trans {M n m : Nat} {t u v : Tm} (h : HR M n t u) (k : HR M m u v) : HR M (n + m) t v := by
  induction h with
  | refl t => rw [Nat.zero_add]; exact k
  | step hs _ ih => rw [Nat.add_right_comm]; exact .step hs (ih k)
theorem step1_apps {t u : Tm} (h : step1 t = some u) (hl : isLam t = false) : ∀ as : List Tm, step1 (apps t as) = some (apps u as)
  | [] => h
  | a :: as => step1_apps (t := .app t a) (u := .app u a) (by rw [step1_app hl, h]) rfl as
theorem step1_red (b a : Tm) (as : List Tm) : step1 (apps (.app (.lam b) a) as) = some (apps (inst b a) as) := step1_apps rfl rfl as
theorem HR.betas {M n : Nat} {t u : Tm} (h : HR M n t u) : Betas t u := by
  induction h with
  | refl t => exact .refl t
  | step _ _ ih => exact .head (step1_beta (step1_red _ _ _)) ih
theorem leads_weak {M m : Nat} {t due : Tm} (h : HR M m t due) (hn : nf due = true) : ∀ n, leadsM n t due ≠ some false := by
  induction h with
  | refl t =>
    intro n
    cases n with
    | zero => simp [leadsM]
    | succ n => simp [leadsM, step1_none hn]
  | step _ _ ih =>
    intro n
    cases n with
    | zero => simp [leadsM]
    | succ n =>
      simp only [leadsM, step1_red]
      split
      · simp
      · exact ih hn n
theorem leads_strong {M m : Nat} {t due : Tm} (h : HR M m t due) (hn : nf due = true) (hM : M ≤ 1000) : ∀ n, m < n → leadsM n t due = some true := by
  induction h with
  | refl t =>
    intro n hlt
    cases n with
    | zero => omega
    | succ n => simp [leadsM, step1_none hn]
  | step hs _ ih =>
    intro n hlt
    cases n with
    | zero => omega
    | succ n =>
      simp only [leadsM, step1_red]
      rw [if_neg (by omega)]
      exact ih hn n (by omega)
/-! substitutions -/
theorem sub_apps (s : Nat → Tm) : ∀ (as : List Tm) (t : Tm), sub s (apps t as) = apps (sub s t) (as.map (sub s))
  | [], t => rfl
  | a :: as, t => by
    show sub s (apps (.app t a) as) = _
    rw [sub_apps s as]
    rfl
theorem apps_app (t : Tm) (as bs : List Tm) : apps t (as ++ bs) = apps (apps t as) bs := by simp [apps, List.foldl_append]
theorem inst_ups (s : Nat → Tm) (b a : Tm) : inst (sub (ups s) b) a = sub (scons a s) b := by
  unfold inst
  rw [sub_sub]
  refine sub_ext b fun n => ?_
  cases n with
  | zero => rfl
  | succ n =>
    show sub (scons a .var) (ren Nat.succ (s n)) = s n
    rw [sub_ren]
    exact (sub_ext (s n) fun n => rfl).trans (sub_var (s n))
def sconsL : List Tm → (Nat → Tm) → (Nat → Tm)
  | [], s => s
  | a :: as, s => sconsL as (scons a s)
theorem sconsL_skip : ∀ (as : List Tm) (s : Nat → Tm) (n : Nat), sconsL as s (n + as.length) = s n
  | [], s, n => rfl
  | a :: as, s, n => by
    show sconsL as (scons a s) (n + (as.length + 1)) = s n
    rw [show n + (as.length + 1) = (n + 1) + as.length by omega, sconsL_skip as]
    rfl
theorem sconsL_dn : ∀ (as : List Tm) (s : Nat → Tm), (dn as.length).map (sub (sconsL as s)) = as
  | [], s => rfl
  | a :: as, s => by
    show sconsL as (scons a s) as.length :: (dn as.length).map (sub (sconsL as (scons a s))) = a :: as
    rw [sconsL_dn as]
    have := sconsL_skip as (scons a s) 0
    rw [Nat.zero_add] at this
    rw [this]
    rfl
theorem sconsL_app (as bs : List Tm) (s : Nat → Tm) : sconsL (as ++ bs) s = sconsL bs (sconsL as s) := by
  induction as generalizing s with
  | nil => rfl
  | cons a as ih => exact ih (scons a s)
theorem sub_lift (as : List Tm) (s : Nat → Tm) (t : Tm) : sub (sconsL as s) (lift as.length t) = sub s t := by
  rw [lift, sub_ren]
  exact sub_ext t fun n => sconsL_skip as s n
theorem sub_cl : ∀ {t : Tm} {k : Nat} {s : Nat → Tm}, cl k t → (∀ n, n < k → s n = .var n) → sub s t = t
  | .var n, k, s, h, hs => hs n h
  | .lam b, k, s, h, hs => by
    simp only [sub]
    rw [sub_cl (t := b) (k := k + 1) h]
    intro n hn
    cases n with
    | zero => rfl
    | succ n =>
      show ren Nat.succ (s n) = _
      rw [hs n (by omega)]
      rfl
  | .app f x, k, s, h, hs => by
    simp only [sub]
    rw [sub_cl h.1 hs, sub_cl h.2 hs]
theorem sub_cl0 {t : Tm} (h : cl 0 t) (s : Nat → Tm) : sub s t = t := sub_cl h fun n hn => by omega
/-! weights: the size of what a substitution makes -/
def wsh (f : Nat → Nat) : Nat → Nat
  | 0 => 1
  | n + 1 => f n
def ws (f : Nat → Nat) : Tm → Nat
  | .var n => f n
  | .lam b => ws (wsh f) b + 1
  | .app g x => ws f g + ws f x + 1
theorem ws_ext {f g : Nat → Nat} : ∀ {t : Tm}, (∀ n, f n = g n) → ws f t = ws g t := fun {t} h => by
  have : f = g := funext h
  rw [this]
theorem ws_size : ∀ (t : Tm) (s : Nat → Tm), size (sub s t) = ws (fun n => size (s n)) t
  | .var n, s => rfl
  | .lam b, s => by
    simp only [sub, size, ws]
    rw [ws_size b]
    congr 1
    refine ws_ext fun n => ?_
    cases n with
    | zero => rfl
    | succ n => exact size_ren (s n)
  | .app f x, s => by simp only [sub, size, ws]; rw [ws_size f, ws_size x]
theorem ws_mono : ∀ {t : Tm} {f g : Nat → Nat}, (∀ n, f n ≤ g n) → ws f t ≤ ws g t
  | .var n, f, g, h => h n
  | .lam b, f, g, h => by
    have := ws_mono (t := b) (f := wsh f) (g := wsh g) fun n => by
      cases n with
      | zero => exact Nat.le_refl _
      | succ n => exact h n
    simp only [ws]; omega
  | .app a x, f, g, h => by
    have := ws_mono (t := a) h
    have := ws_mono (t := x) h
    simp only [ws]; omega
def leaves : Tm → Nat
  | .var _ => 1
  | .lam b => leaves b
  | .app f x => leaves f + leaves x
theorem leaves_le : ∀ t : Tm, 2 * leaves t ≤ size t + 1
  | .var n => by simp [leaves, size]
  | .lam b => by have := leaves_le b; simp only [leaves, size]; omega
  | .app f x => by have := leaves_le f; have := leaves_le x; simp only [leaves, size]; omega
theorem ws_cap : ∀ {t : Tm} {f : Nat → Nat} {c : Nat}, (∀ n, f n ≤ c + 1) → ws f t ≤ size t + leaves t * c
  | .var n, f, c, h => by have := h n; simp only [ws, size, leaves]; omega
  | .lam b, f, c, h => by
    have := ws_cap (t := b) (f := wsh f) (c := c) fun n => by
      cases n with
      | zero => show 1 ≤ c + 1; omega
      | succ n => exact h n
    simp only [ws, size, leaves]; omega
  | .app a x, f, c, h => by
    have := ws_cap (t := a) h
    have := ws_cap (t := x) h
    simp only [ws, size, leaves, Nat.add_mul]; omega
/-! a bound variable that is used once at most -/
def cnt (d : Nat) : Tm → Nat
  | .var n => if n = d then 1 else 0
  | .lam b => cnt (d + 1) b
  | .app f x => cnt d f + cnt d x
theorem ws_cnt : ∀ (t : Tm) (f g : Nat → Nat) (d c : Nat), (∀ n, n ≠ d → f n = g n) → f d = g d + c → ws f t = ws g t + cnt d t * c
  | .var n, f, g, d, c, h, hd => by
    simp only [ws, cnt]
    by_cases e : n = d
    · subst e; rw [if_pos rfl, Nat.one_mul]; exact hd
    · rw [if_neg e, Nat.zero_mul]; exact h n e
  | .lam b, f, g, d, c, h, hd => by
    have := ws_cnt b (wsh f) (wsh g) (d + 1) c (fun n hn => by
      cases n with
      | zero => rfl
      | succ n => exact h n (by omega)) hd
    simp only [ws, cnt]; omega
  | .app a x, f, g, d, c, h, hd => by
    have := ws_cnt a f g d c h hd
    have := ws_cnt x f g d c h hd
    simp only [ws, cnt, Nat.add_mul]; omega
theorem cnt_lams : ∀ (j d : Nat) (t : Tm), cnt d (lams j t) = cnt (d + j) t
  | 0, d, t => rfl
  | j + 1, d, t => by
    show cnt (d + 1) (lams j t) = _
    rw [cnt_lams j, show d + 1 + j = d + (j + 1) by omega]
theorem size_aff (s : Nat → Tm) (b a : Tm) (h : cnt 0 b ≤ 1) : size (sub (scons a s) b) + 2 ≤ size (sub s (.lam b)) + size a := by
  have hp := size_pos a
  have h1 := ws_cnt b (fun n => size (scons a s n)) (wsh fun n => size (s n)) 0 (size a - 1) (fun n hn => by
    cases n with
    | zero => exact absurd rfl hn
    | succ n => rfl) (by show size a = 1 + (size a - 1); omega)
  rw [ws_size, ws_size]
  simp only [ws]
  have h2 : cnt 0 b * (size a - 1) ≤ 1 * (size a - 1) := Nat.mul_le_mul_right _ h
  omega
/-- abstractions whose variables are used once at most -/
theorem lam_aff {M : Nat} (body : Tm) : ∀ (Ts : List Tm) (s : Nat → Tm) (R : List Tm), (∀ j, j < Ts.length → cnt j body ≤ 1) → size (apps (sub s (lams Ts.length body)) (Ts ++ R)) ≤ M →
    HR M Ts.length (apps (sub s (lams Ts.length body)) (Ts ++ R)) (apps (sub (sconsL Ts s) body) R) ∧ size (apps (sub (sconsL Ts s) body) R) ≤ M
  | [], s, R, _, h => ⟨.refl _, h⟩
  | a :: Ts, s, R, hc, h => by
    have e : apps (sub s (lams (Ts.length + 1) body)) (a :: Ts ++ R) = apps (.app (.lam (sub (ups s) (lams Ts.length body))) a) (Ts ++ R) := rfl
    have hstep : size (apps (inst (sub (ups s) (lams Ts.length body)) a) (Ts ++ R)) ≤ M := by
      rw [inst_ups]
      have h1 := size_aff s (lams Ts.length body) a (by rw [cnt_lams, Nat.zero_add]; exact hc _ (by simp))
      have h2 : size (apps (sub s (.lam (lams Ts.length body))) (a :: (Ts ++ R))) ≤ M := h
      rw [size_apps2, sizes_cons, List.length_cons] at h2
      rw [size_apps2]
      omega
    have h2 := hstep
    rw [inst_ups] at h2
    obtain ⟨i1, i2⟩ := lam_aff body Ts (scons a s) R (fun j hj => hc j (by simp only [List.length_cons]; omega)) h2
    refine ⟨?_, i2⟩
    show HR M (Ts.length + 1) (apps (.app (.lam (sub (ups s) (lams Ts.length body))) a) (Ts ++ R)) _
    refine .step hstep ?_
    rw [inst_ups]
    exact i1
theorem size_lams_le (body : Tm) : ∀ (Ts : List Tm) (s : Nat → Tm), size (sub s (lams Ts.length body)) ≤ Ts.length + size (sub (sconsL Ts s) body)
  | [], s => by simp [lams, sconsL]
  | a :: Ts, s => by
    have ih := size_lams_le body Ts (scons a s)
    have h1 : size (sub s (.lam (lams Ts.length body))) ≤ size (sub (scons a s) (lams Ts.length body)) + 1 := by
      rw [ws_size, ws_size]
      simp only [ws]
      have := ws_mono (t := lams Ts.length body) (f := wsh fun n => size (s n)) (g := fun n => size (scons a s n)) fun n => by
        cases n with
        | zero => exact size_pos a
        | succ n => exact Nat.le_refl _
      omega
    show size (sub s (.lam (lams Ts.length body))) ≤ Ts.length + 1 + size (sub (sconsL Ts (scons a s)) body)
    omega
/-- abstractions of any kind: a bound that serves on the way -/
theorem lam_any {M : Nat} (body : Tm) : ∀ (Ts : List Tm) (s : Nat → Tm) (R : List Tm), size (sub (sconsL Ts s) body) + Ts.length + (Ts ++ R).length + sizes (Ts ++ R) ≤ M →
    HR M Ts.length (apps (sub s (lams Ts.length body)) (Ts ++ R)) (apps (sub (sconsL Ts s) body) R)
  | [], s, R, _ => .refl _
  | a :: Ts, s, R, h => by
    rw [List.cons_append, sizes_cons, List.length_cons, List.length_cons] at h
    have e1 : sconsL (a :: Ts) s = sconsL Ts (scons a s) := rfl
    rw [e1] at h ⊢
    have hsz : size (sub (scons a s) (lams Ts.length body)) ≤ Ts.length + size (sub (sconsL Ts (scons a s)) body) := size_lams_le body Ts (scons a s)
    have hstep : size (apps (inst (sub (ups s) (lams Ts.length body)) a) (Ts ++ R)) ≤ M := by
      rw [inst_ups, size_apps2]
      omega
    show HR M (Ts.length + 1) (apps (.app (.lam (sub (ups s) (lams Ts.length body))) a) (Ts ++ R)) _
    refine .step hstep ?_
    rw [inst_ups]
    exact lam_any body Ts (scons a s) R (by omega)
end Wk
end
section
set_option Elab.async false
set_option autoImplicit false
set_option linter.all false
set_option maxRecDepth 100000
set_option maxHeartbeats 4000000
/-! Plain: what the arguments do. -/
namespace Wk
open PySem L2 Dl Lam
theorem dn_dn1 : ∀ w : Nat, dn (w + 1) = dn1 w ++ [.var 0]
  | 0 => rfl
  | w + 1 => by
    rw [dn, dn_dn1 w]
    rfl
theorem cnt_apps (d : Nat) : ∀ (as : List Tm) (t : Tm), cnt d (apps t as) = cnt d t + (as.map (cnt d)).sum
  | [], t => by simp [apps]
  | a :: as, t => by
    show cnt d (apps (.app t a) as) = _
    rw [cnt_apps d as]
    simp only [cnt, List.map_cons, List.sum_cons]
    omega
theorem cnt_dn1 (j : Nat) : ∀ w : Nat, ((dn1 w).map (cnt j)).sum ≤ (if 1 ≤ j ∧ j ≤ w then 1 else 0)
  | 0 => by simp [dn1]
  | w + 1 => by
    have ih := cnt_dn1 j w
    simp only [dn1, List.map_cons, List.sum_cons, cnt]
    by_cases e : w + 1 = j
    · subst e
      rw [if_pos rfl, if_pos ⟨by omega, by omega⟩]
      rw [if_neg (by omega)] at ih
      omega
    · rw [if_neg e]
      split at ih
      · rw [if_pos ⟨by omega, by omega⟩]; omega
      · omega
theorem cnt_tup (w j : Nat) : cnt j (apps (.var 0) (dn1 w)) ≤ 1 := by
  rw [cnt_apps]
  have := cnt_dn1 j w
  simp only [cnt]
  by_cases e : 0 = j
  · subst e
    rw [if_neg (by omega)] at this
    rw [if_pos rfl]; omega
  · rw [if_neg e]
    split at this <;> omega
theorem tup_run {M w : Nat} {xs : List Tm} {f : Tm} {R : List Tm} (hx : xs.length = w) (hs : size (apps (tupT w) (xs ++ f :: R)) ≤ M) : HR M (w + 1) (apps (tupT w) (xs ++ f :: R)) (apps f (xs ++ R)) ∧ size (apps f (xs ++ R)) ≤ M := by
  have hl : (xs ++ [f]).length = w + 1 := by simp [hx]
  have e1 : tupT w = sub .var (lams (xs ++ [f]).length (apps (.var 0) (dn1 w))) := by rw [sub_var, hl]; rfl
  have e2 : xs ++ f :: R = (xs ++ [f]) ++ R := by simp
  have e3 : apps (sub (sconsL (xs ++ [f]) .var) (apps (.var 0) (dn1 w))) R = apps f (xs ++ R) := by
    have h1 := sconsL_dn (xs ++ [f]) .var
    rw [hl, dn_dn1, List.map_append] at h1
    obtain ⟨h2, h3⟩ := List.append_inj' h1 rfl
    have h4 : sub (sconsL (xs ++ [f]) .var) (.var 0) = f := by simpa using h3
    rw [sub_apps, h2, h4, apps_app]
  have := lam_aff (M := M) (apps (.var 0) (dn1 w)) (xs ++ [f]) .var R (fun j _ => cnt_tup w j) (by rw [← e1, ← e2]; exact hs)
  rw [e3, ← e1, ← e2, hl] at this
  exact this
theorem proj_run {M k n : Nat} {xs R : List Tm} (hn : xs.length = n) (hk : k < n) (hs : size (apps (proj k n) (xs ++ R)) ≤ M) : HR M n (apps (proj k n) (xs ++ R)) (apps (nth xs k) R) ∧ size (apps (nth xs k) R) ≤ M := by
  subst hn
  have e1 : proj k xs.length = sub .var (lams xs.length (.var (xs.length - 1 - k))) := by rw [sub_var]; rfl
  have e3 : sub (sconsL xs .var) (.var (xs.length - 1 - k)) = nth xs k := by
    have h1 := congrArg (fun l : List Tm => l[k]?) (sconsL_dn xs .var)
    simp only [List.getElem?_map, dn_get hk, Option.map_some] at h1
    exact (nth_of h1.symm).symm
  have := lam_aff (M := M) (.var (xs.length - 1 - k)) xs .var R (fun j _ => by simp only [cnt]; split <;> omega) (by rw [← e1]; exact hs)
  rw [e3, ← e1] at this
  exact this
theorem cnt_cl : ∀ {t : Tm} {k d : Nat}, cl k t → k ≤ d → cnt d t = 0
  | .var n, k, d, h, hd => by
    have h' : n < k := h
    simp only [cnt]
    rw [if_neg (by omega)]
  | .lam b, k, d, h, hd => cnt_cl (t := b) (k := k + 1) h (by omega)
  | .app f x, k, d, h, hd => by simp only [cnt, cnt_cl h.1 hd, cnt_cl h.2 hd]
theorem const_run {M c : Nat} {g : Tm} {ys R : List Tm} (hg : cl 0 g) (hc : ys.length = c) (hs : size (apps (lams c g) (ys ++ R)) ≤ M) : HR M c (apps (lams c g) (ys ++ R)) (apps g R) ∧ size (apps g R) ≤ M := by
  subst hc
  have e1 : lams ys.length g = sub .var (lams ys.length g) := (sub_var _).symm
  have := lam_aff (M := M) g ys .var R (fun j _ => by rw [cnt_cl hg (Nat.zero_le _)]; omega) (by rw [← e1]; exact hs)
  rw [← e1, sub_cl0 hg] at this
  exact this
/-- a normal term, stretched, meets its arguments -/
theorem pos_run {M : Nat} {t : Tm} {s : Nat → Tm} {Ts R : List Tm} (ht : nf t = true) (hm : hn t ≤ Ts.length) {c : Nat} (hs : ∀ n, size (s n) ≤ c + 1) (hT : ∀ a ∈ Ts, size a ≤ c + 1)
    (hM : size t + leaves t * c + hn t + (Ts ++ R).length + sizes (Ts ++ R) ≤ M) :
    HR M (hn t) (apps (sub s t) (Ts ++ R)) (apps (sconsL Ts s (stn Ts.length t).1) ((stn Ts.length t).2.map (sub (sconsL Ts s)) ++ R)) := by
  have e0 := open_eq ht
  generalize en : hn t = n at *
  have hT1 : (Ts.take n).length = n := by rw [List.length_take]; omega
  have hT2 : (Ts.drop n).length = Ts.length - n := List.length_drop
  have eT : Ts = Ts.take n ++ Ts.drop n := (List.take_append_drop n Ts).symm
  have es : sconsL Ts s = sconsL (Ts.drop n) (sconsL (Ts.take n) s) := by rw [← sconsL_app, List.take_append_drop]
  have hcap : ∀ (as : List Tm) (q : Nat → Tm), (∀ n, size (q n) ≤ c + 1) → (∀ a ∈ as, size a ≤ c + 1) → ∀ n, size (sconsL as q n) ≤ c + 1 := fun as => by
    induction as with
    | nil => exact fun q h _ n => h n
    | cons a as ih => exact fun q h h2 n => ih (scons a q) (fun n => by
        cases n with
        | zero => exact h2 a List.mem_cons_self
        | succ n => exact h n) (fun b hb => h2 b (List.mem_cons_of_mem _ hb)) n
  have hsz : size (sub (sconsL (Ts.take n) s) (apps (.var (hv t)) (ha t))) ≤ size t + leaves t * c := by
    have h1 := ws_cap (t := apps (.var (hv t)) (ha t)) (f := fun k => size (sconsL (Ts.take n) s k)) (c := c) (hcap _ s hs fun a h => hT a (List.mem_of_mem_take h))
    rw [← ws_size] at h1
    have h2 : size (apps (.var (hv t)) (ha t)) ≤ size t := by
      have := size_lams n (apps (.var (hv t)) (ha t))
      rw [← e0] at this; omega
    have h3 : leaves (apps (.var (hv t)) (ha t)) = leaves t := by
      have : ∀ (n : Nat) (b : Tm), leaves (lams n b) = leaves b := fun n b => by
        induction n with
        | zero => rfl
        | succ n ih => exact ih
      have h4 := this n (apps (.var (hv t)) (ha t))
      rw [← e0] at h4; exact h4.symm
    rw [h3] at h1
    omega
  have key := lam_any (M := M) (apps (.var (hv t)) (ha t)) (Ts.take n) s (Ts.drop n ++ R) (by
    rw [← List.append_assoc, List.take_append_drop, hT1]
    omega)
  rw [hT1, ← e0, ← List.append_assoc, List.take_append_drop, sub_apps, ← apps_app] at key
  have e5 : (stn Ts.length t).2.map (sub (sconsL Ts s)) = (ha t).map (sub (sconsL (Ts.take n) s)) ++ Ts.drop n := by
    simp only [stn, en]
    rw [List.map_append, List.map_map, es, ← hT2, sconsL_dn]
    congr 1
    apply List.map_congr_left
    intro a _
    exact sub_lift (Ts.drop n) (sconsL (Ts.take n) s) a
  have e6 : sconsL Ts s (stn Ts.length t).1 = sub (sconsL (Ts.take n) s) (.var (hv t)) := by
    simp only [stn, en]
    rw [es, ← hT2, sconsL_skip]
    rfl
  rw [e5, e6, List.append_assoc]
  exact key
/-! the environment -/
def EnvOk (W : List (Int × Int)) (off : Nat) (s : Nat → Tm) : Prop := ∀ n, n < off → s n = tupA W (off - 1 - n)
theorem tups_len (W : List (Int × Int)) (off m : Nat) : (tups W off m).length = m := by simp [tups]
theorem EnvOk.next {W : List (Int × Int)} {off : Nat} {s : Nat → Tm} (h : EnvOk W off s) (m : Nat) : EnvOk W (off + m) (sconsL (tups W off m) s) := by
  intro n hn
  by_cases hlt : n < m
  · have h1 := congrArg (fun l : List Tm => l[m - 1 - n]?) (sconsL_dn (tups W off m) s)
    rw [tups_len] at h1
    have h2 : (dn m)[m - 1 - n]? = some (.var n) := by
      rw [dn_get (by omega)]
      congr 2
      omega
    have h3 : (tups W off m)[m - 1 - n]? = some (tupA W (off + (m - 1 - n))) := by
      unfold tups
      rw [List.getElem?_map, List.getElem?_range (by omega)]
      rfl
    simp only [List.getElem?_map, h2, Option.map_some, h3, Option.some.injEq] at h1
    have h4 : sconsL (tups W off m) s n = tupA W (off + (m - 1 - n)) := h1
    rw [h4]
    congr 1
    omega
  · have h1 := sconsL_skip (tups W off m) s (n - m)
    rw [tups_len, show n - m + m = n by omega] at h1
    rw [h1, h (n - m) (by omega)]
    congr 1
    omega
theorem tupA_of {W : List (Int × Int)} {l n : Nat} (h : getI W (l : Int) = some (n : Int)) : tupA W l = tupT n ∧ wOf W l = n := by
  unfold tupA wOf
  rw [h]
  simp
end Wk
end
section
set_option Elab.async false
set_option autoImplicit false
set_option linter.all false
set_option maxRecDepth 100000
set_option maxHeartbeats 4000000
/-! Plain: the walk along the path. -/
namespace Wk
open PySem L2 Dl Lam
/-- what the widths must be for the positions of a path -/
structure Wd (W : List (Int × Int)) (o c : Nat) : Prop where
  top : ∀ l, wOf W l ≤ o
  sz : ∀ l, size (tupA W l) ≤ c + 1
def HasW (W : List (Int × Int)) (xs : List Ps) : Prop := ∀ x ∈ xs, ∀ p ∈ lvl x, ∃ n : Nat, getI W (p.1 : Int) = some (n : Int) ∧ p.2 ≤ n
theorem cl_proj {k n : Nat} (h : k < n) : cl 0 (proj k n) := by
  unfold proj
  rw [cl_lams]
  show n - 1 - k < 0 + n
  omega
theorem sel_two {m off : Nat} {t u : Tm} (h : Two m off t u) (k : Nat) : nf (sel k t u) = true ∧ cl off (sel k t u) ∧ size (sel k t u) ≤ m ∧ hn (sel k t u) ≤ mx t u := by
  unfold sel
  split
  · exact ⟨h.nt, h.ct, h.st, Nat.le_max_left _ _⟩
  · exact ⟨h.nu, h.cu, h.su, Nat.le_max_right _ _⟩
/-- the first part: a term at a position meets the position's arguments, its head is the tupler of its level -/
theorem head_run {M m off o c : Nat} {W : List (Int × Int)} {t u : Tm} {s : Nat → Tm} (k : Nat) (h : Two m off t u) (hw : Wd W o c) (he : EnvOk W off s) (hs : ∀ n, size (s n) ≤ c + 1) (n : Nat)
    (hn' : getI W ((off + mx t u - 1 - (stn (mx t u) (sel k t u)).1 : Nat) : Int) = some (n : Int)) (R : List Tm) (hM : m + (m + 1) / 2 * c + m + (tups W off (mx t u) ++ R).length + sizes (tups W off (mx t u) ++ R) ≤ M) :
    HR M (hn (sel k t u)) (apps (sub s (sel k t u)) (tups W off (mx t u) ++ R)) (apps (tupT n) ((stn (mx t u) (sel k t u)).2.map (sub (sconsL (tups W off (mx t u)) s)) ++ R)) := by
  obtain ⟨h1, h2, h3, h4⟩ := sel_two h k
  have hlen := tups_len W off (mx t u)
  have hT : ∀ a ∈ tups W off (mx t u), size a ≤ c + 1 := fun a ha => by
    unfold tups at ha
    obtain ⟨j, _, rfl⟩ := List.mem_map.mp ha
    exact hw.sz _
  have hlv := leaves_le (sel k t u)
  have hso := size_open h1
  have hl2 : leaves (sel k t u) * c ≤ (m + 1) / 2 * c := Nat.mul_le_mul_right _ (by omega)
  have key := pos_run (M := M) (t := sel k t u) (s := s) (Ts := tups W off (mx t u)) (R := R) (c := c) h1 (by rw [hlen]; exact h4) hs hT (by omega)
  rw [hlen] at key
  have hlt : (stn (mx t u) (sel k t u)).1 < off + mx t u := by
    have := (ha_cl h1 h2).1
    simp only [stn]; omega
  have e := (he.next (mx t u)) _ hlt
  rw [e, (tupA_of hn').1] at key
  exact key
theorem size_le_of {M n : Nat} {t u : Tm} (h : HR M n t u) (h0 : size t ≤ M) : size u ≤ M := by
  induction h with
  | refl t => exact h0
  | step hs _ ih => exact ih hs
theorem sub_size_le {c : Nat} {s : Nat → Tm} (hs : ∀ n, size (s n) ≤ c + 1) {m : Nat} {t : Tm} (h : size t ≤ m) : size (sub s t) ≤ m + (m + 1) / 2 * c := by
  have h1 := ws_cap (t := t) (f := fun k => size (s k)) (c := c) hs
  rw [← ws_size] at h1
  have := leaves_le t
  have : leaves t * c ≤ (m + 1) / 2 * c := Nat.mul_le_mul_right _ (by omega)
  omega
theorem scons_size {c : Nat} : ∀ (as : List Tm) (q : Nat → Tm), (∀ n, size (q n) ≤ c + 1) → (∀ a ∈ as, size a ≤ c + 1) → ∀ n, size (sconsL as q n) ≤ c + 1
  | [], q, h, _, n => h n
  | a :: as, q, h, h2, n => scons_size as (scons a q) (fun n => by
      cases n with
      | zero => exact h2 a List.mem_cons_self
      | succ n => exact h n) (fun b hb => h2 b (List.mem_cons_of_mem _ hb)) n
/-- the last position -/
theorem end_run {M m off o c : Nat} {W : List (Int × Int)} {t u : Tm} {s : Nat → Tm} (k : Nat) (hk : k < 2) (h : Two m off t u) (hw : Wd W o c) (he : EnvOk W off s) (hs : ∀ n, size (s n) ≤ c + 1) (E : List Tm) (x : Ps)
    (ex : x = ⟨mx t u, off, stn (mx t u) t, stn (mx t u) u, none⟩) (hx : HasW W [x]) (hne : wOf W (lvP x).1 - (lvP x).2 ≠ wOf W (lvQ x).1 - (lvQ x).2)
    (hM : m + (m + 1) / 2 * c + m + (argP W x ++ choices W (lvP x) (lvQ x) ++ E).length + sizes (argP W x ++ choices W (lvP x) (lvQ x) ++ E) ≤ M) :
    ∃ n, n ≤ x.ab + (3 * o + 1) ∧ HR M n (apps (sub s (sel k t u)) (argP W x ++ choices W (lvP x) (lvQ x) ++ E)) (apps (proj k 2) E) := by
  have eA : argP W x = tups W off (mx t u) := by rw [ex]; simp [argP]
  rw [eA] at hM ⊢
  -- the level and the count of the one looked at
  obtain ⟨l, hl⟩ : ∃ l : LC, l = sel k (lvP x) (lvQ x) := ⟨_, rfl⟩
  have hlm : l ∈ lvl x := by
    rw [hl]; unfold sel
    split <;> simp [lvl]
  have hl1 : l = (off + mx t u - 1 - (stn (mx t u) (sel k t u)).1, (stn (mx t u) (sel k t u)).2.length) := by
    rw [hl, ex]; unfold sel
    split <;> rfl
  obtain ⟨n, hg, hc⟩ := hx x (by simp) l hlm
  have hwn := (tupA_of hg).2
  have hno : n ≤ o := by rw [← hwn]; exact hw.top _
  rw [List.append_assoc] at hM ⊢
  have run1 := head_run (M := M) k h hw he hs n (by rw [hl1] at hg; exact hg) (choices W (lvP x) (lvQ x) ++ E) hM
  generalize exs : (stn (mx t u) (sel k t u)).2.map (sub (sconsL (tups W off (mx t u)) s)) = as at run1
  have hasl : as.length = l.2 := by rw [← exs, List.length_map, hl1]
  have hs0 : size (apps (sub s (sel k t u)) (tups W off (mx t u) ++ (choices W (lvP x) (lvQ x) ++ E))) ≤ M := by
    rw [size_apps2]
    have := sub_size_le hs (sel_two h k).2.2.1
    omega
  have hs1 := size_le_of run1 hs0
  -- the choices, cut at the rank
  generalize eg : greatest W (lvP x) (lvQ x) = g at *
  have hr : n - l.2 ≤ g := by
    rw [← eg, greatest]
    rw [hl] at hwn ⊢
    unfold sel at hwn ⊢
    split at hwn
    · rw [if_pos (by assumption)]; omega
    · rw [if_neg (by assumption)]; omega
  have hgo : g ≤ o := by
    rw [← eg, greatest]
    have := hw.top (lvP x).1
    have := hw.top (lvQ x).1
    omega
  have ech : choices W (lvP x) (lvQ x) = (choices W (lvP x) (lvQ x)).take (n - l.2) ++ lams (n + g - (n - l.2)) (proj k 2) :: (choices W (lvP x) (lvQ x)).drop (n - l.2 + 1) := by
    have hcl : (choices W (lvP x) (lvQ x)).length = g + 1 := by rw [choices_len, eg]
    have hlt : n - l.2 < (choices W (lvP x) (lvQ x)).length := by omega
    have hget : (choices W (lvP x) (lvQ x))[n - l.2] = lams (n + g - (n - l.2)) (proj k 2) := by
      have h1 : (choices W (lvP x) (lvQ x))[n - l.2]? = some (choice W (lvP x) (lvQ x) g (n - l.2)) := by
        unfold choices
        rw [eg, List.getElem?_map, List.getElem?_range (by omega)]
        rfl
      rw [List.getElem?_eq_getElem hlt] at h1
      rw [Option.some.inj h1]
      unfold choice
      match k, hk with
      | 0, _ =>
        have e1 : l = lvP x := hl
        subst e1
        rw [if_pos (by rw [hwn]), hwn]
      | 1, _ =>
        have e1 : l = lvQ x := hl
        subst e1
        rw [if_neg (by rw [hwn] at hne; exact fun z => hne z.symm), if_pos (by rw [hwn]), hwn]
    rw [← hget, ← List.drop_eq_getElem_cons hlt, List.take_append_drop]
  have hl3 : ((choices W (lvP x) (lvQ x)).take (n - l.2)).length = n - l.2 := by
    rw [List.length_take, choices_len, eg]; omega
  have hl4 : ((choices W (lvP x) (lvQ x)).drop (n - l.2 + 1)).length = g - (n - l.2) := by
    rw [List.length_drop, choices_len, eg]; omega
  generalize (choices W (lvP x) (lvQ x)).take (n - l.2) = C1 at *
  generalize (choices W (lvP x) (lvQ x)).drop (n - l.2 + 1) = C2 at *
  rw [ech] at run1 hs1 ⊢
  have e5 : as ++ ((C1 ++ lams (n + g - (n - l.2)) (proj k 2) :: C2) ++ E) = (as ++ C1) ++ lams (n + g - (n - l.2)) (proj k 2) :: (C2 ++ E) := by simp
  rw [e5] at run1 hs1
  obtain ⟨run2, hs2⟩ := tup_run (M := M) (w := n) (xs := as ++ C1) (by rw [List.length_append, hl3]; omega) hs1
  have e6 : (as ++ C1) ++ (C2 ++ E) = (as ++ C1 ++ C2) ++ E := by simp
  rw [e6] at run2 hs2
  obtain ⟨run3, hs3⟩ := const_run (M := M) (c := n + g - (n - l.2)) (g := proj k 2) (ys := as ++ C1 ++ C2) (R := E) (cl_proj hk) (by rw [List.length_append, List.length_append, hl3, hl4]; omega) hs2
  refine ⟨_, ?_, (run1.trans run2).trans run3⟩
  have := (sel_two h k).2.2.2
  have e7 : x.ab = mx t u := by rw [ex]
  rw [e7]
  omega
end Wk
end
section
set_option Elab.async false
set_option autoImplicit false
set_option linter.all false
set_option maxRecDepth 100000
set_option maxHeartbeats 4000000
/-! Plain: the whole path. -/
namespace Wk
open PySem L2 Dl Lam
def cost (o : Nat) (xs : List Ps) : Nat := (xs.map fun x => x.ab + (3 * o + 1)).sum
theorem cost_cons (o : Nat) (x : Ps) (xs : List Ps) : cost o (x :: xs) = x.ab + (3 * o + 1) + cost o xs := by simp [cost]
theorem path_ne (f off : Nat) (t u : Tm) : path f off t u ≠ [] := by
  cases f with
  | zero => simp [path]
  | succ f => rw [path]; split <;> simp
theorem last_cons {x : Ps} {ys : List Ps} (h : ys ≠ []) : lastPs (x :: ys) = lastPs ys := by
  cases ys with
  | nil => exact absurd rfl h
  | cons y ys => simp [lastPs]
theorem run_path {M m o c : Nat} {W : List (Int × Int)} (k : Nat) (hk : k < 2) (hw : Wd W o c) (E : List Tm) : ∀ (f off : Nat) (t u : Tm) (s : Nat → Tm), Two m off t u → size t + size u ≤ f → EnvOk W off s → (∀ n, size (s n) ≤ c + 1) →
    HasW W (path f off t u) → wOf W (lvP (lastPs (path f off t u))).1 - (lvP (lastPs (path f off t u))).2 ≠ wOf W (lvQ (lastPs (path f off t u))).1 - (lvQ (lastPs (path f off t u))).2 →
    m + (m + 1) / 2 * c + m + ((path f off t u).flatMap (argP W) ++ choices W (lvP (lastPs (path f off t u))) (lvQ (lastPs (path f off t u))) ++ E).length + sizes ((path f off t u).flatMap (argP W) ++ choices W (lvP (lastPs (path f off t u))) (lvQ (lastPs (path f off t u))) ++ E) ≤ M →
    ∃ n, n ≤ cost o (path f off t u) ∧ HR M n (apps (sub s (sel k t u)) ((path f off t u).flatMap (argP W) ++ choices W (lvP (lastPs (path f off t u))) (lvQ (lastPs (path f off t u))) ++ E)) (apps (proj k 2) E)
  | 0, off, t, u, s, h, hf, _, _, _, _, _ => by have := size_pos t; omega
  | f + 1, off, t, u, s, h, hf, he, hs, hx, hne, hM => by
    cases hal : alike (stn (mx t u) t) (stn (mx t u) u) with
    | false =>
      rw [path_no hal] at hx hne hM ⊢
      have el : lastPs [⟨mx t u, off, stn (mx t u) t, stn (mx t u) u, none⟩] = ⟨mx t u, off, stn (mx t u) t, stn (mx t u) u, none⟩ := rfl
      rw [el] at hne hM ⊢
      rw [List.flatMap_cons, List.flatMap_nil, List.append_nil] at hM ⊢
      obtain ⟨n, h1, h2⟩ := end_run (M := M) k hk h hw he hs E _ rfl hx hne hM
      exact ⟨n, by rw [cost_cons]; omega, h2⟩
    | true =>
      obtain ⟨k1, k2, k3, k4⟩ := h.next hal
      rw [path_yes hal] at hx hne hM ⊢
      rw [last_cons (path_ne _ _ _ _)] at hne hM ⊢
      have hal2 := hal
      simp only [alike, Bool.and_eq_true, beq_iff_eq] at hal2
      generalize eκ : fne (stn (mx t u) t).2 (stn (mx t u) u).2 = κ at *
      generalize eys : path f (off + mx t u) (nth (stn (mx t u) t).2 κ) (nth (stn (mx t u) u).2 κ) = ys at *
      rw [List.flatMap_cons, List.append_assoc, List.append_assoc] at hM ⊢
      -- the level of the head
      obtain ⟨n, hg, hc⟩ := hx _ List.mem_cons_self (lvP ⟨mx t u, off, stn (mx t u) t, stn (mx t u) u, some κ⟩) (by simp [lvl])
      have hwn := (tupA_of hg).2
      have hno : n ≤ o := by rw [← hwn]; exact hw.top _
      have hsv : (stn (mx t u) (sel k t u)).1 = (stn (mx t u) t).1 ∧ (stn (mx t u) (sel k t u)).2.length = (stn (mx t u) t).2.length := by
        unfold sel
        split
        · exact ⟨rfl, rfl⟩
        · exact ⟨hal2.1.symm, hal2.2.symm⟩
      have hc' : (stn (mx t u) t).2.length ≤ n := hc
      have eA : argP W ⟨mx t u, off, stn (mx t u) t, stn (mx t u) u, some κ⟩ = tups W off (mx t u) ++ (List.replicate (n - (stn (mx t u) t).2.length) idT ++ [proj κ n]) := by
        simp only [argP]
        rw [hwn]
        rfl
      rw [eA, List.append_assoc] at hM ⊢
      have hM0 := hM
      generalize eR : (ys.flatMap (argP W) ++ (choices W (lvP (lastPs ys)) (lvQ (lastPs ys)) ++ E)) = R at *
      have run1 := head_run (M := M) k h hw he hs n (by rw [hsv.1]; exact hg) ((List.replicate (n - (stn (mx t u) t).2.length) idT ++ [proj κ n]) ++ R) hM
      generalize exs : (stn (mx t u) (sel k t u)).2.map (sub (sconsL (tups W off (mx t u)) s)) = as at run1
      have hasl : as.length = (stn (mx t u) t).2.length := by rw [← exs, List.length_map, hsv.2]
      have hs0 : size (apps (sub s (sel k t u)) (tups W off (mx t u) ++ ((List.replicate (n - (stn (mx t u) t).2.length) idT ++ [proj κ n]) ++ R))) ≤ M := by
        rw [size_apps2]
        have := sub_size_le hs (sel_two h k).2.2.1
        omega
      have hs1 := size_le_of run1 hs0
      have e5 : as ++ ((List.replicate (n - (stn (mx t u) t).2.length) idT ++ [proj κ n]) ++ R) = (as ++ List.replicate (n - (stn (mx t u) t).2.length) idT) ++ proj κ n :: R := by simp
      rw [e5] at run1 hs1
      have hl5 : (as ++ List.replicate (n - (stn (mx t u) t).2.length) idT).length = n := by rw [List.length_append, List.length_replicate]; omega
      obtain ⟨run2, hs2⟩ := tup_run (M := M) (w := n) hl5 hs1
      obtain ⟨run3, hs3⟩ := proj_run (M := M) (k := κ) hl5 (by omega) hs2
      have en : nth (as ++ List.replicate (n - (stn (mx t u) t).2.length) idT) κ = sub (sconsL (tups W off (mx t u)) s) (sel k (nth (stn (mx t u) t).2 κ) (nth (stn (mx t u) u).2 κ)) := by
        have h1 : as[κ]? = some (sub (sconsL (tups W off (mx t u)) s) (nth (stn (mx t u) (sel k t u)).2 κ)) := by
          rw [← exs, List.getElem?_map, nth_get (by rw [hsv.2]; exact k1)]
          rfl
        have h2 : nth (as ++ List.replicate (n - (stn (mx t u) t).2.length) idT) κ = sub (sconsL (tups W off (mx t u)) s) (nth (stn (mx t u) (sel k t u)).2 κ) := by
          refine nth_of ?_
          rw [List.getElem?_append_left (by omega)]
          exact h1
        rw [h2]
        congr 1
        unfold sel
        split <;> rfl
      rw [en] at run3
      have hT : ∀ a ∈ tups W off (mx t u), size a ≤ c + 1 := fun a ha => by
        unfold tups at ha
        obtain ⟨j, _, rfl⟩ := List.mem_map.mp ha
        exact hw.sz _
      have ih := run_path (M := M) k hk hw E f (off + mx t u) _ _ (sconsL (tups W off (mx t u)) s) k3 (by omega) (he.next _) (scons_size _ _ hs hT)
      rw [eys, List.append_assoc, eR] at ih
      obtain ⟨n', hn', run4⟩ := ih (fun y hy => hx y (List.mem_cons_of_mem _ hy)) hne (by
        rw [sizes_app, sizes_app, List.length_append, List.length_append] at hM0
        omega)
      refine ⟨_, ?_, ((run1.trans run2).trans run3).trans run4⟩
      rw [cost_cons]
      have := (sel_two h k).2.2.2
      simp only
      omega
end Wk
end
section
set_option Elab.async false
set_option autoImplicit false
set_option linter.all false
set_option maxRecDepth 100000
set_option maxHeartbeats 4000000
/-! Plain: bounds for small terms; Math. -/
namespace Wk
open PySem L2 Dl Lam
theorem HR.mono {M M' n : Nat} {t u : Tm} (h : HR M n t u) (hM : M ≤ M') : HR M' n t u := by
  induction h with
  | refl t => exact .refl t
  | step hs _ ih => exact .step (Nat.le_trans hs hM) ih
theorem widths_wd {xs : List Ps} {W : List (Int × Int)} (o : Nat) (h : ∀ l, wOf W l ≤ o) (hb : ∀ k n, getI W k = some n → 0 ≤ n) : Wd W o (3 * o + 1) := by
  refine ⟨h, fun l => ?_⟩
  unfold tupA
  cases e : getI W (l : Int) with
  | none => show 2 ≤ _; omega
  | some w =>
    have h1 := h l
    simp only [wOf, e, Option.getD_some] at h1
    show size (tupT w.toNat) ≤ _
    rw [size_tupT]; omega
theorem run_all {u v : Tm} {m o M : Nat} (h : Two 40 0 u v) (hm : Two m 0 u v) (ho : ∀ l, wOf (widths (pth u v)) l ≤ o) (k : Nat) (hk : k < 2) (E : List Tm) (hM : m + (m + 1) / 2 * (3 * o + 1) + m + (args u v ++ E).length + sizes (args u v ++ E) ≤ M) :
    ∃ n, n ≤ cost o (pth u v) ∧ HR M n (apps (sel k u v) (args u v ++ E)) (apps (proj k 2) E) := by
  have hP := pth_ok h
  obtain ⟨hne, hpq, _, _⟩ := pth_end h
  have hW := widths_ok hP hne
  have hwd := widths_wd (xs := pth u v) o ho (fun k n e => (hW.bd k n e).1)
  have := run_path (M := M) k hk hwd E (size u + size v) 0 u v .var hm (Nat.le_refl _) (fun n hn => by omega) (fun n => by show 1 ≤ _; omega) hW.le (hW.ne hpq) hM
  rw [sub_var] at this
  exact this
theorem args_run {u v : Tm} (h : Two 40 0 u v) (k : Nat) (hk : k < 2) (E : List Tm) : ∃ M n, size (apps (proj k 2) E) ≤ M ∧ HR M n (apps (sel k u v) (args u v ++ E)) (apps (proj k 2) E) := by
  have hW := widths_ok (pth_ok h) (pth_end h).1
  obtain ⟨n, _, hr⟩ := run_all (M := 40 + (40 + 1) / 2 * (3 * 81 + 1) + 40 + (args u v ++ E).length + sizes (args u v ++ E)) h h hW.top k hk E (Nat.le_refl _)
  refine ⟨_, n, ?_, hr⟩
  rw [size_apps2, size_proj, sizes_app, List.length_append]
  omega
/-! the potential -/
theorem drop_one {t : Tm} (h : nf t = true) (m κ : Nat) : size (nth (stn m t).2 κ) + hn t + 2 * (ha t).length ≤ size t := by
  have hs := size_open h
  have hl := sizes_len (ha t)
  by_cases e : κ < (ha t).length
  · have h1 : nth (stn m t).2 κ = lift (m - hn t) (nth (ha t) κ) := by
      refine nth_of ?_
      simp only [stn]
      rw [List.getElem?_append_left (by simpa using e), List.getElem?_map, nth_get e]
      rfl
    rw [h1, size_lift]
    have h2 : ∀ (as : List Tm) (κ : Nat), κ < as.length → size (nth as κ) + as.length ≤ sizes as + 1 := fun as => by
      induction as with
      | nil => intro κ h; simp at h
      | cons a as ih =>
        intro κ h
        rw [sizes_cons, List.length_cons]
        cases κ with
        | zero => have := sizes_len as; show size a + _ ≤ _; omega
        | succ κ =>
          have := ih κ (by simpa using h)
          have := size_pos a
          show size (nth as κ) + _ ≤ _
          omega
    have := h2 _ _ e
    omega
  · have h1 : size (nth (stn m t).2 κ) = 1 := by
      unfold nth
      simp only [stn]
      rw [List.getElem?_append_right (by simpa using e)]
      cases e2 : (dn (m - hn t))[κ - ((ha t).map (lift (m - hn t))).length]? with
      | none => rfl
      | some a =>
        obtain ⟨j, _, rfl⟩ := dn_mem (List.mem_of_getElem? e2)
        rfl
    omega
def sumAb (xs : List Ps) : Nat := (xs.map (·.ab)).sum
theorem sumAb_cons (x : Ps) (xs : List Ps) : sumAb (x :: xs) = x.ab + sumAb xs := by simp [sumAb]
theorem pot {m : Nat} : ∀ (f off : Nat) (t u : Tm), Two m off t u → size t + size u ≤ f →
    sumAb (path f off t u) + 2 * ((path f off t u).length - 1) + 2 ≤ size t + size u ∧ ∀ p ∈ (path f off t u).flatMap lvl, p.2 ≤ 1 ∨ p.2 + 2 * ((path f off t u).length - 1) + 2 ≤ size t + size u
  | 0, off, t, u, h, hf => by have := size_pos t; omega
  | f + 1, off, t, u, h, hf => by
    have hst := size_open h.nt
    have hsu := size_open h.nu
    have hlt := sizes_len (ha t)
    have hlu := sizes_len (ha u)
    have l1 := stn_len (mx t u) t
    have l2 := stn_len (mx t u) u
    have hmx : mx t u = max (hn t) (hn u) := rfl
    cases hal : alike (stn (mx t u) t) (stn (mx t u) u) with
    | false =>
      rw [path_no hal]
      refine ⟨by simp [sumAb]; omega, fun p hp => ?_⟩
      simp only [List.flatMap_cons, List.flatMap_nil, List.append_nil, lvl, List.mem_cons, List.not_mem_nil, or_false] at hp
      rcases hp with rfl | rfl
      · simp only [lvP, List.length_singleton]; omega
      · simp only [lvQ, List.length_singleton]; omega
    | true =>
      obtain ⟨k1, k2, k3, k4⟩ := h.next hal
      rw [path_yes hal]
      simp only [alike, Bool.and_eq_true, beq_iff_eq] at hal
      generalize fne (stn (mx t u) t).2 (stn (mx t u) u).2 = κ at *
      obtain ⟨i1, i2⟩ := pot (m := m) f (off + mx t u) _ _ k3 (by omega)
      have d1 := drop_one h.nt (mx t u) κ
      have d2 := drop_one h.nu (mx t u) κ
      have hne : (path f (off + mx t u) (nth (stn (mx t u) t).2 κ) (nth (stn (mx t u) u).2 κ)).length ≥ 1 := by
        have := path_ne f (off + mx t u) (nth (stn (mx t u) t).2 κ) (nth (stn (mx t u) u).2 κ)
        cases e : path f (off + mx t u) (nth (stn (mx t u) t).2 κ) (nth (stn (mx t u) u).2 κ) with
        | nil => exact absurd e this
        | cons y ys => simp
      generalize path f (off + mx t u) (nth (stn (mx t u) t).2 κ) (nth (stn (mx t u) u).2 κ) = ys at *
      have key : size (nth (stn (mx t u) t).2 κ) + size (nth (stn (mx t u) u).2 κ) + mx t u + 2 * (stn (mx t u) t).2.length ≤ size t + size u := by omega
      refine ⟨?_, fun p hp => ?_⟩
      · rw [sumAb_cons, List.length_cons]
        simp only
        omega
      · rw [List.flatMap_cons] at hp
        rw [List.length_cons]
        rcases List.mem_append.mp hp with hp | hp
        · simp only [lvl, List.mem_cons, List.not_mem_nil, or_false] at hp
          rcases hp with rfl | rfl
          · simp only [lvP]; omega
          · simp only [lvQ]; omega
        · have := i2 p hp
          omega
end Wk
end
section
set_option Elab.async false
set_option autoImplicit false
set_option linter.all false
set_option maxRecDepth 100000
set_option maxHeartbeats 4000000
/-! Plain: small terms; Math. -/
namespace Wk
open PySem L2 Dl Lam
def tot (as : List Tm) : Nat := as.length + sizes as
theorem tot_app (as bs : List Tm) : tot (as ++ bs) = tot as + tot bs := by
  unfold tot
  rw [List.length_append, sizes_app]; omega
theorem tot_le {b : Nat} {as : List Tm} (h : ∀ a ∈ as, size a ≤ b) : tot as ≤ as.length * (b + 1) := by
  have := sizes_le h
  unfold tot
  rw [Nat.mul_add, Nat.mul_one, Nat.mul_comm as.length b]
  omega
theorem argP_tot {W : List (Int × Int)} {w : Nat} (hw : Wd W w (3 * w + 1)) (x : Ps) : tot (argP W x) ≤ x.ab * (3 * w + 3) + (if x.turn.isSome then 4 * w + 2 else 0) ∧ (argP W x).length ≤ x.ab + (if x.turn.isSome then w + 1 else 0) := by
  have h1 : tot (tups W x.off x.ab) ≤ x.ab * (3 * w + 3) := by
    have := tot_le (b := 3 * w + 2) (as := tups W x.off x.ab) fun a ha => by
      unfold tups at ha
      obtain ⟨j, _, rfl⟩ := List.mem_map.mp ha
      exact hw.sz _
    rw [tups_len] at this
    exact this
  have h2 := tups_len W x.off x.ab
  have h3 := hw.top (lvP x).1
  unfold argP
  rw [tot_app, List.length_append, h2]
  cases x.turn with
  | none => simp [tot, sizes]; exact h1
  | some k =>
    simp only [Option.isSome_some, if_true]
    rw [tot_app, List.length_append]
    have h4 : tot (List.replicate (wOf W (lvP x).1 - (lvP x).2) idT) ≤ w * 3 := by
      have := tot_le (b := 2) (as := List.replicate (wOf W (lvP x).1 - (lvP x).2) idT) fun a ha => by
        rw [List.eq_of_mem_replicate ha]; decide
      rw [List.length_replicate] at this
      omega
    have h5 : tot [proj k (wOf W (lvP x).1)] = wOf W (lvP x).1 + 2 := by simp [tot, sizes, size_proj]; omega
    rw [h5, List.length_replicate, List.length_singleton]
    constructor <;> omega
def al (xs : List Ps) : Nat := (xs.filter fun x => x.turn.isSome).length
theorem flat_tot {W : List (Int × Int)} {w : Nat} (hw : Wd W w (3 * w + 1)) : ∀ xs : List Ps, tot (xs.flatMap (argP W)) ≤ sumAb xs * (3 * w + 3) + al xs * (4 * w + 2) ∧ (xs.flatMap (argP W)).length ≤ sumAb xs + al xs * (w + 1)
  | [] => by simp [tot, sizes, sumAb, al]
  | x :: xs => by
    obtain ⟨h1, h2⟩ := argP_tot hw x
    obtain ⟨i1, i2⟩ := flat_tot hw xs
    have ea : al (x :: xs) = (if x.turn.isSome then 1 else 0) + al xs := by
      unfold al
      rw [List.filter_cons]
      split <;> simp <;> omega
    rw [List.flatMap_cons, tot_app, List.length_append, sumAb_cons, ea, Nat.add_mul, Nat.add_mul, Nat.add_mul]
    cases hh : x.turn.isSome with
    | true =>
      simp only [hh, if_true] at h1 h2 ⊢
      constructor <;> omega
    | false =>
      simp only [hh, Bool.false_eq_true, if_false] at h1 h2 ⊢
      constructor <;> omega
theorem choices_tot {W : List (Int × Int)} {w : Nat} (h : ∀ l, wOf W l ≤ w) (p q : LC) : tot (choices W p q) ≤ (w + 1) * (2 * w + 4) ∧ (choices W p q).length ≤ w + 1 := by
  have hg : greatest W p q ≤ w := by
    have := h p.1
    have := h q.1
    unfold greatest
    omega
  have hl := choices_len W p q
  refine ⟨?_, by omega⟩
  have h1 := tot_le (b := 2 * w + 3) (as := choices W p q) fun a ha => by
    unfold choices at ha
    obtain ⟨r, _, rfl⟩ := List.mem_map.mp ha
    have := h p.1
    have := h q.1
    unfold choice
    split
    · rw [size_lams, size_proj]; omega
    · split
      · rw [size_lams, size_proj]; omega
      · show 2 ≤ _; omega
  have h2 : (choices W p q).length * (2 * w + 3 + 1) ≤ (w + 1) * (2 * w + 3 + 1) := Nat.mul_le_mul_right _ (by omega)
  show _ ≤ (w + 1) * (2 * w + 3 + 1)
  omega
theorem al_lt {u v : Tm} (h : Two 40 0 u v) : al (pth u v) ≤ (pth u v).length - 1 := by
  obtain ⟨r, x, e, h1, _, _⟩ := path_end h (Nat.le_refl _)
  have e : pth u v = r ++ [x] := e
  rw [e]
  unfold al
  rw [List.filter_append, List.length_append, List.length_append]
  have := List.length_filter_le (fun x : Ps => x.turn.isSome) r
  simp [h1]
  exact this
theorem cost_le (o : Nat) : ∀ xs : List Ps, cost o xs = sumAb xs + xs.length * (3 * o + 1)
  | [] => by simp [cost, sumAb]
  | x :: xs => by
    rw [cost_cons, cost_le o xs, sumAb_cons, List.length_cons, Nat.add_mul, Nat.one_mul]
    omega
theorem size_two {t : Tm} (h : cl 0 t) : 2 ≤ size t := by
  cases t with
  | var n => exact absurd h (Nat.not_lt_zero n)
  | lam b => have := size_pos b; simp only [size]; omega
  | app f x => have := size_pos f; have := size_pos x; simp only [size]; omega
theorem small_ok {u v : Tm} (h : Two 40 0 u v) (hs : size u + size v < 13) : okA (args u v) ∧ ∀ k, k < 2 → leadsM 400 (apps (sel k u v) (args u v)) (proj k 2) = some true := by
  have hm : Two 10 0 u v := by
    have := size_two h.ct
    have := size_two h.cu
    exact ⟨h.nt, h.nu, h.et, h.eu, h.ct, h.cu, by omega, by omega, h.ne⟩
  obtain ⟨p1, p2⟩ := pot (m := 10) (size u + size v) 0 u v hm (Nat.le_refl _)
  have p1 : sumAb (pth u v) + 2 * ((pth u v).length - 1) + 2 ≤ size u + size v := p1
  have p2 : ∀ p ∈ (pth u v).flatMap lvl, p.2 ≤ 1 ∨ p.2 + 2 * ((pth u v).length - 1) + 2 ≤ size u + size v := p2
  have hlen : 1 ≤ (pth u v).length := by
    cases e : pth u v with
    | nil => exact absurd e (pth_end h).1
    | cons y ys => simp
  have hal := al_lt h
  have hW := widths_ok (pth_ok h) (pth_end h).1
  obtain ⟨a, ha⟩ : ∃ a, a = (pth u v).length - 1 := ⟨_, rfl⟩
  have ha5 : a ≤ 5 := by omega
  obtain ⟨w, hwd⟩ : ∃ w, w = max 1 (10 - 2 * a) + 1 := ⟨_, rfl⟩
  have htop : ∀ l, wOf (widths (pth u v)) l ≤ w := fun l => by
    have := hW.cap (max 1 (10 - 2 * a)) (fun p hp => by have := p2 p hp; omega) l
    omega
  have hWd := widths_wd (xs := pth u v) w htop (fun k n e => (hW.bd k n e).1)
  obtain ⟨t1, t2⟩ := flat_tot hWd (pth u v)
  obtain ⟨c1, c2⟩ := choices_tot htop (lvP (lastPs (pth u v))) (lvQ (lastPs (pth u v)))
  have hsum : sumAb (pth u v) ≤ 10 - 2 * a := by omega
  have hala : al (pth u v) ≤ a := by omega
  have etot : tot (args u v) = tot ((pth u v).flatMap (argP (widths (pth u v)))) + tot (choices (widths (pth u v)) (lvP (lastPs (pth u v))) (lvQ (lastPs (pth u v)))) := tot_app _ _
  have elen : (args u v).length = ((pth u v).flatMap (argP (widths (pth u v)))).length + (choices (widths (pth u v)) (lvP (lastPs (pth u v))) (lvQ (lastPs (pth u v)))).length := List.length_append
  have m1 : sumAb (pth u v) * (3 * w + 3) ≤ (10 - 2 * a) * (3 * w + 3) := Nat.mul_le_mul_right _ hsum
  have m2 : al (pth u v) * (4 * w + 2) ≤ a * (4 * w + 2) := Nat.mul_le_mul_right _ hala
  have m3 : al (pth u v) * (w + 1) ≤ a * (w + 1) := Nat.mul_le_mul_right _ hala
  have hcost := cost_le w (pth u v)
  have hl2 : (pth u v).length = a + 1 := by omega
  rw [hl2] at hcost
  have nums : tot (args u v) ≤ 780 ∧ (args u v).length ≤ 400 ∧ cost w (pth u v) ≤ 300 ∧ w ≤ 11 := by
    have : (a = 0 ∧ w = 11) ∨ (a = 1 ∧ w = 9) ∨ (a = 2 ∧ w = 7) ∨ (a = 3 ∧ w = 5) ∨ (a = 4 ∧ w = 3) ∨ (a = 5 ∧ w = 2) := by omega
    clear hwd hWd htop hW p2 hl2 ha
    rcases this with ⟨rfl, rfl⟩ | ⟨rfl, rfl⟩ | ⟨rfl, rfl⟩ | ⟨rfl, rfl⟩ | ⟨rfl, rfl⟩ | ⟨rfl, rfl⟩ <;> simp only [Nat.reduceMul, Nat.reduceSub, Nat.reduceAdd] at m1 m2 m3 hcost hsum t1 t2 c1 c2 <;> omega
  obtain ⟨q1, q2, q3, q4⟩ := nums
  refine ⟨⟨q2, fun x hx => ?_⟩, fun k hk => ?_⟩
  · have := sizes_mem hx
    unfold tot at q1
    omega
  · obtain ⟨n, hn, hr⟩ := run_all (M := 1000) h hm htop k hk [] (by
      rw [List.append_nil]
      unfold tot at q1
      omega)
    rw [List.append_nil] at hr
    exact leads_strong hr (proj_nf k) (Nat.le_refl _) 400 (by omega)
theorem math : Math where
  lead u v k h hk := by
    obtain ⟨M, n, _, hr⟩ := args_run h k hk []
    rw [List.append_nil] at hr
    exact leads_weak hr (proj_nf k) 400
  ends u v k e0 e1 h hk h0 h1 := by
    obtain ⟨M, n, hs, hr⟩ := args_run h k hk [e0, e1]
    obtain ⟨hr2, _⟩ := proj_run (M := M) (k := k) (n := 2) (xs := [e0, e1]) (R := []) rfl hk (by rw [List.append_nil]; exact hs)
    rw [List.append_nil] at hr2
    have e : apps (nth [e0, e1] k) [] = sel k e0 e1 := by
      match k, hk with
      | 0, _ => rfl
      | 1, _ => rfl
    rw [e] at hr2
    refine leads_weak (hr.trans hr2) ?_ 400
    unfold sel
    split
    · exact h0
    · exact h1
  red u v k h hk := by
    obtain ⟨M, n, _, hr⟩ := args_run h k hk []
    rw [List.append_nil] at hr
    exact hr.betas
  small u v h hs := small_ok h hs
end Wk
end
section
set_option Elab.async false
set_option autoImplicit false
set_option linter.all false
set_option maxRecDepth 100000
set_option maxHeartbeats 0
namespace Wk
open PySem PySem.Spec PyProof.Rows L2 Dl Dx Lam
def d_checked : He.DefD := ⟨("checked", none), "checked", "checked", defArgs s_checked, defBody s_checked, defScope s_checked, [], []⟩
def d_end_of : He.DefD := ⟨("end_of", none), "end_of", "end_of", defArgs s_end_of, defBody s_end_of, defScope s_end_of, [], []⟩
def d_depths : He.DefD := ⟨("depths", none), "depths", "depths", defArgs s_depths, defBody s_depths, defScope s_depths, [], []⟩
def d_free : He.DefD := ⟨("free", none), "free", "free", defArgs s_free, defBody s_free, defScope s_free, [], []⟩
def d_lifted : He.DefD := ⟨("lifted", none), "lifted", "lifted", defArgs s_lifted, defBody s_lifted, defScope s_lifted, [], []⟩
def d_lift : He.DefD := ⟨("lift", none), "lift", "lift", defArgs s_lift, defBody s_lift, defScope s_lift, [], []⟩
def d_placed_nodes : He.DefD := ⟨("placed_nodes", none), "placed_nodes", "placed_nodes", defArgs s_placed_nodes, defBody s_placed_nodes, defScope s_placed_nodes, [], []⟩
def d_is_redex : He.DefD := ⟨("is_redex", none), "is_redex", "is_redex", defArgs s_is_redex, defBody s_is_redex, defScope s_is_redex, [], []⟩
def d_redexes : He.DefD := ⟨("redexes", none), "redexes", "redexes", defArgs s_redexes, defBody s_redexes, defScope s_redexes, [], []⟩
def d_opened : He.DefD := ⟨("opened", none), "opened", "opened", defArgs s_opened, defBody s_opened, defScope s_opened, [], []⟩
def d_end_of_head : He.DefD := ⟨("end_of_head", none), "end_of_head", "end_of_head", defArgs s_end_of_head, defBody s_end_of_head, defScope s_end_of_head, [], []⟩
def d_head : He.DefD := ⟨("head", none), "head", "head", defArgs s_head, defBody s_head, defScope s_head, [], []⟩
def d_uses : He.DefD := ⟨("uses", none), "uses", "uses", defArgs s_uses, defBody s_uses, defScope s_uses, [], []⟩
def d_is_needless : He.DefD := ⟨("is_needless", none), "is_needless", "is_needless", defArgs s_is_needless, defBody s_is_needless, defScope s_is_needless, [], []⟩
def d_needless : He.DefD := ⟨("needless", none), "needless", "needless", defArgs s_needless, defBody s_needless, defScope s_needless, [], []⟩
def d_stretched : He.DefD := ⟨("stretched", none), "stretched", "stretched", defArgs s_stretched, defBody s_stretched, defScope s_stretched, [], []⟩
def d_most_abstractions : He.DefD := ⟨("most_abstractions", none), "most_abstractions", "most_abstractions", defArgs s_most_abstractions, defBody s_most_abstractions, defScope s_most_abstractions, [], []⟩
def d_look : He.DefD := ⟨("look", none), "look", "look", defArgs s_look, defBody s_look, defScope s_look, [], []⟩
def d_same_heads : He.DefD := ⟨("same_heads", none), "same_heads", "same_heads", defArgs s_same_heads, defBody s_same_heads, defScope s_same_heads, [], []⟩
def d_is_fully_normal : He.DefD := ⟨("is_fully_normal", none), "is_fully_normal", "is_fully_normal", defArgs s_is_fully_normal, defBody s_is_fully_normal, defScope s_is_fully_normal, [], []⟩
def d_check_crowd : He.DefD := ⟨("check_crowd", none), "check_crowd", "check_crowd", defArgs s_check_crowd, defBody s_check_crowd, defScope s_check_crowd, [], []⟩
def d_next_turn : He.DefD := ⟨("next_turn", none), "next_turn", "next_turn", defArgs s_next_turn, defBody s_next_turn, defScope s_next_turn, [], []⟩
def d_turns : He.DefD := ⟨("turns", none), "turns", "turns", defArgs s_turns, defBody s_turns, defScope s_turns, [], []⟩
def d_abstracted_by : He.DefD := ⟨("abstracted_by", none), "abstracted_by", "abstracted_by", defArgs s_abstracted_by, defBody s_abstracted_by, defScope s_abstracted_by, [], []⟩
def d_projection : He.DefD := ⟨("projection", none), "projection", "projection", defArgs s_projection, defBody s_projection, defScope s_projection, [], []⟩
def d_tupler : He.DefD := ⟨("tupler", none), "tupler", "tupler", defArgs s_tupler, defBody s_tupler, defScope s_tupler, [], []⟩
def d_Position___init__ : He.DefD := ⟨("Position", some "__init__"), "__init__", "Position.__init__", defArgs s_Position___init__, defBody s_Position___init__, defScope s_Position___init__, [], []⟩
def d_Position_levels : He.DefD := ⟨("Position", some "levels"), "levels", "Position.levels", defArgs s_Position_levels, defBody s_Position_levels, defScope s_Position_levels, [], []⟩
def d_positions_of : He.DefD := ⟨("positions_of", none), "positions_of", "positions_of", defArgs s_positions_of, defBody s_positions_of, defScope s_positions_of, [], []⟩
def d_needs_of : He.DefD := ⟨("needs_of", none), "needs_of", "needs_of", defArgs s_needs_of, defBody s_needs_of, defScope s_needs_of, [], []⟩
def d_clashes : He.DefD := ⟨("clashes", none), "clashes", "clashes", defArgs s_clashes, defBody s_clashes, defScope s_clashes, [], []⟩
def d_widths_of : He.DefD := ⟨("widths_of", none), "widths_of", "widths_of", defArgs s_widths_of, defBody s_widths_of, defScope s_widths_of, [], []⟩
def d_groups_of : He.DefD := ⟨("groups_of", none), "groups_of", "groups_of", defArgs s_groups_of, defBody s_groups_of, defScope s_groups_of, [], []⟩
def d_tuplers_of : He.DefD := ⟨("tuplers_of", none), "tuplers_of", "tuplers_of", defArgs s_tuplers_of, defBody s_tuplers_of, defScope s_tuplers_of, [], []⟩
def d_choices_at_end : He.DefD := ⟨("choices_at_end", none), "choices_at_end", "choices_at_end", defArgs s_choices_at_end, defBody s_choices_at_end, defScope s_choices_at_end, [], []⟩
def d_separate : He.DefD := ⟨("separate", none), "separate", "separate", defArgs s_separate, defBody s_separate, defScope s_separate, [], []⟩
def d_tell : He.DefD := ⟨("tell", none), "tell", "tell", defArgs s_tell, defBody s_tell, defScope s_tell, [], []⟩
def d__law_stream : He.DefD := ⟨("_law_stream", none), "_law_stream", "_law_stream", defArgs s__law_stream, defBody s__law_stream, defScope s__law_stream, [], []⟩
def d__law_draw : He.DefD := ⟨("_law_draw", none), "_law_draw", "_law_draw", defArgs s__law_draw, defBody s__law_draw, defScope s__law_draw, [], []⟩
def d__law_end : He.DefD := ⟨("_law_end", none), "_law_end", "_law_end", defArgs s__law_end, defBody s__law_end, defScope s__law_end, [], []⟩
def d__law_depths : He.DefD := ⟨("_law_depths", none), "_law_depths", "_law_depths", defArgs s__law_depths, defBody s__law_depths, defScope s__law_depths, [], []⟩
def d__law_lift : He.DefD := ⟨("_law_lift", none), "_law_lift", "_law_lift", defArgs s__law_lift, defBody s__law_lift, defScope s__law_lift, [], []⟩
def d__law_put : He.DefD := ⟨("_law_put", none), "_law_put", "_law_put", defArgs s__law_put, defBody s__law_put, defScope s__law_put, [], []⟩
def d__law_step : He.DefD := ⟨("_law_step", none), "_law_step", "_law_step", defArgs s__law_step, defBody s__law_step, defScope s__law_step, [], []⟩
def d__law_redexes : He.DefD := ⟨("_law_redexes", none), "_law_redexes", "_law_redexes", defArgs s__law_redexes, defBody s__law_redexes, defScope s__law_redexes, [], []⟩
def d__law_inner : He.DefD := ⟨("_law_inner", none), "_law_inner", "_law_inner", defArgs s__law_inner, defBody s__law_inner, defScope s__law_inner, [], []⟩
def d__law_body : He.DefD := ⟨("_law_body", none), "_law_body", "_law_body", defArgs s__law_body, defBody s__law_body, defScope s__law_body, [], []⟩
def d__law_normal : He.DefD := ⟨("_law_normal", none), "_law_normal", "_law_normal", defArgs s__law_normal, defBody s__law_normal, defScope s__law_normal, [], []⟩
def d__law_shrink : He.DefD := ⟨("_law_shrink", none), "_law_shrink", "_law_shrink", defArgs s__law_shrink, defBody s__law_shrink, defScope s__law_shrink, [], []⟩
def d__law_closed : He.DefD := ⟨("_law_closed", none), "_law_closed", "_law_closed", defArgs s__law_closed, defBody s__law_closed, defScope s__law_closed, [], []⟩
def d__law_form : He.DefD := ⟨("_law_form", none), "_law_form", "_law_form", defArgs s__law_form, defBody s__law_form, defScope s__law_form, [], []⟩
def d__law_near : He.DefD := ⟨("_law_near", none), "_law_near", "_law_near", defArgs s__law_near, defBody s__law_near, defScope s__law_near, [], []⟩
def d__law_projection : He.DefD := ⟨("_law_projection", none), "_law_projection", "_law_projection", defArgs s__law_projection, defBody s__law_projection, defScope s__law_projection, [], []⟩
def d__law_applied : He.DefD := ⟨("_law_applied", none), "_law_applied", "_law_applied", defArgs s__law_applied, defBody s__law_applied, defScope s__law_applied, [], []⟩
def d__law_becomes : He.DefD := ⟨("_law_becomes", none), "_law_becomes", "_law_becomes", defArgs s__law_becomes, defBody s__law_becomes, defScope s__law_becomes, [], []⟩
def d__law_leads : He.DefD := ⟨("_law_leads", none), "_law_leads", "_law_leads", defArgs s__law_leads, defBody s__law_leads, defScope s__law_leads, [], []⟩
def d__law_tell : He.DefD := ⟨("_law_tell", none), "_law_tell", "_law_tell", defArgs s__law_tell, defBody s__law_tell, defScope s__law_tell, [], []⟩
def d__law_pair : He.DefD := ⟨("_law_pair", none), "_law_pair", "_law_pair", defArgs s__law_pair, defBody s__law_pair, defScope s__law_pair, [], []⟩
def d_law : He.DefD := ⟨("law", none), "law", "law", defArgs s_law, defBody s_law, defScope s_law, [], []⟩
def fn0 : List He.DefD := [d_checked, d_end_of, d_depths, d_free, d_lifted, d_lift, d_placed_nodes, d_is_redex, d_redexes, d_opened, d_end_of_head, d_head, d_uses, d_is_needless, d_needless, d_stretched]
def fn1 : List He.DefD := [d_most_abstractions, d_look, d_same_heads, d_is_fully_normal, d_check_crowd, d_next_turn, d_turns, d_abstracted_by, d_projection, d_tupler, d_Position___init__, d_Position_levels, d_positions_of, d_needs_of, d_clashes, d_widths_of]
def fn2 : List He.DefD := [d_groups_of, d_tuplers_of, d_choices_at_end, d_separate, d_tell, d__law_stream, d__law_draw, d__law_end, d__law_depths, d__law_lift, d__law_put, d__law_step, d__law_redexes, d__law_inner, d__law_body, d__law_normal]
def fn3 : List He.DefD := [d__law_shrink, d__law_closed, d__law_form, d__law_near, d__law_projection, d__law_applied, d__law_becomes, d__law_leads, d__law_tell, d__law_pair, d_law]
def fn : List He.DefD := fn0 ++ fn1 ++ fn2 ++ fn3
def fa0 : List He.Fa := [.free "len", .free "isinstance", .free "max", .free "any", .free "all", .free "abs", .free "int", .free "list", .free "tuple", .free "set", .free "sorted", .free "range", .free "zip", .free "enumerate", .int "MOST_NODES" 1000, .int "MOST_VARIABLE" 1000000]
def fa1 : List He.Fa := [.int "MOST_CROWD" 12, .int "MOST_ARGUMENTS" 400, .glo "IDENTITY", .glo "Position", .cls "Position", .mkr "Position", .meth "Position" "levels", .noat "Position" "abstractions", .noat "Position" "first_level", .noat "Position" "heads", .noat "Position" "turn", .exc "TooLarge", .exm "TooLarge" "TooLarge" true, .glo "TooLarge", .glo "checked", .glo "end_of"]
def fa2 : List He.Fa := [.glo "depths", .glo "free", .glo "lifted", .glo "lift", .glo "placed_nodes", .glo "is_redex", .glo "redexes", .glo "opened", .glo "end_of_head", .glo "head", .glo "uses", .glo "is_needless", .glo "needless", .glo "stretched", .glo "most_abstractions", .glo "look"]
def fa3 : List He.Fa := [.glo "same_heads", .glo "is_fully_normal", .glo "check_crowd", .glo "next_turn", .glo "turns", .glo "abstracted_by", .glo "projection", .glo "tupler", .glo "positions_of", .glo "needs_of", .glo "clashes", .glo "widths_of", .glo "groups_of", .glo "tuplers_of", .glo "choices_at_end", .glo "separate"]
def fa4 : List He.Fa := [.glo "tell", .glo "_law_stream", .glo "_law_draw", .glo "_law_end", .glo "_law_depths", .glo "_law_lift", .glo "_law_put", .glo "_law_step", .glo "_law_redexes", .glo "_law_inner", .glo "_law_body", .glo "_law_normal", .glo "_law_shrink", .glo "_law_closed", .glo "_law_form", .glo "_law_near"]
def fa5 : List He.Fa := [.glo "_law_projection", .glo "_law_applied", .glo "_law_becomes", .glo "_law_leads", .glo "_law_tell", .glo "_law_pair", .glo "law"]
def fa : List He.Fa := fa0 ++ fa1 ++ fa2 ++ fa3 ++ fa4 ++ fa5
def lo0 : List PySem.Str := ["LyditeError", "TooLarge", "BadCrowd", "AllEqual", "MOST_NODES", "MOST_VARIABLE", "checked", "end_of", "depths", "free", "lifted", "lift", "placed_nodes", "is_redex", "redexes", "opened"]
def lo1 : List PySem.Str := ["end_of_head", "head", "uses", "is_needless", "needless", "MOST_CROWD", "stretched", "most_abstractions", "look", "same_heads", "is_fully_normal", "check_crowd", "next_turn", "turns", "MOST_ARGUMENTS", "IDENTITY"]
def lo2 : List PySem.Str := ["abstracted_by", "projection", "tupler", "Position", "positions_of", "needs_of", "clashes", "widths_of", "groups_of", "tuplers_of", "choices_at_end", "separate", "tell", "_law_stream", "_law_draw", "_law_end"]
def lo3 : List PySem.Str := ["_law_depths", "_law_lift", "_law_put", "_law_step", "_law_redexes", "_law_places", "_law_follow", "_law_inner", "_law_body", "_law_road", "_law_normal", "_law_shrink", "_law_closed", "_law_form", "_law_near", "_law_projection"]
def lo4 : List PySem.Str := ["_law_applied", "_law_becomes", "_law_leads", "_law_tell", "_law_pair"]
def lo : List PySem.Str := lo0 ++ lo1 ++ lo2 ++ lo3 ++ lo4
abbrev R : PySem.W.OpenRow := PySem.W.OpenLaw.row PySem.Challenge.rw_lydite_k99_whole_told_apart
/-- the identity is the tuple that it was made as -/
def exB (K : PySem.W.Frag) : Bool := He.tupB K "IDENTITY" [.str "lam", .int 0]
def obsI (g : Addr → Option Obj) : He.AlD × Bool := (He.obsD fa fn (He.frG g (He.asD g 4)), exB (He.frG g (He.asD g 4)))
def hk : PySem.W.Hook where
  α := He.AlD × Bool
  obs := fun s => obsI s.heap.get?
  val := fun _ => (He.valD fn, true)
  says := fun _ h => ∃ K : PySem.W.Frag, K.In h ∧ He.SaysD fa fn K ∧ exB K = true
  of := fun _ _ e => ⟨_, He.frG_in, congrArg (fun z : He.AlD × Bool => z.1) e, congrArg (fun z : He.AlD × Bool => z.2) e⟩
  keeps := fun _ _ _ ⟨K, hK, c⟩ k => ⟨K, PySem.W.Frag.In.keeps hK k, c⟩
def ob (s : PySem.W.SharedT) : He.AlD × Bool := obsI (HandSHeadRun.getT s)
theorem ob_eq (s : PySem.W.SharedT) : ob s = hk.obs s.abs := by
  have e : HandSHeadRun.getT s = s.abs.heap.get? := funext (HandSHeadRun.getT_eq s)
  unfold ob
  rw [e]
  rfl
theorem run (w : World) : HandSHeadRun.RunEq R (PySem.W.view R.prog [79]) hk ob 12000 lo w := by
  intro os
  kernel_rfl
theorem fun_of {K : PySem.W.Frag} {x qual : Str} {st : Stmt} {f : Addr} {fd : FuncData} (F : FunD K x qual (defArgs st) (defBody st) (defScope st) [] [] f fd) : Fun K x qual st f fd := by
  obtain ⟨oc, od, dV, kV, doc, pm, an, cdv, ct, osl, rfl, lk, hcd, hD, hK⟩ := F.ex
  rcases hD with ⟨_, rfl⟩ | ⟨e, _⟩
  · exact ⟨⟨oc, od, kV, doc, pm, an, cdv, ct, osl, rfl, lk, hcd⟩, F.kp⟩
  · exact absurd rfl e
theorem df_empty {P : Program} {w : World} {K : PySem.W.Frag} {mg : Str → Option Value} {base : Heap} {k : Nat} {x : Str} {ps : List Str} {sp : Sp} {f : Addr} {fd : FuncData} (hm : mg x = some (.ref f)) (kp : PySem.W.keepIn K (.ref f) = true) (b : Binds K fd ps [])
    (h : ∀ vs H Q E, sp vs H Q E → False) : Df P w K mg base k x ps sp := df_mk hm kp b ⟨fun _ _ _ _ z => (h _ _ _ _ z).elim, fun _ _ _ _ _ _ _ _ _ _ _ _ _ z => (h _ _ _ _ z).elim⟩
theorem df_mono {P : Program} {w : World} {K : PySem.W.Frag} {mg : Str → Option Value} {base : Heap} {j k : Nat} {x : Str} {ps : List Str} {sp : Sp} (D : Df P w K mg base j x ps sp) (h : j ≤ k) : Df P w K mg base k x ps sp := by
  obtain ⟨f, fd, hm, kp, b, F⟩ := D.ex
  exact ⟨f, fd, hm, kp, b, F.mono h⟩
theorem facts {P : Program} {w : World} {K : PySem.W.Frag} {h : Heap} {mg : Str → Option Value} {f : Addr} (X : K.In h) (G : h.Ns mainGlobals mg) (hfa : mg ("law" : Str) = some (.ref f)) (c : He.SaysD fa fn K) (ce : exB K = true) :
    ∃ fd : FuncData, (∀ (s : Shared) (v : Value), BindsTo s fd ⟨[v], []⟩ [("_law_script", v)]) ∧ ∀ base : Heap, K.In base → base.Ns mainGlobals mg → FnOk P w K mg base CX0 31 f fd ["_law_script"] (sp_law K (He.ga K "Position")) := by
  have TX : Tx K mg (He.ga K "Position") (He.ga K "IDENTITY") := by
    refine ⟨He.free_ok X G (c.fact 0 (f := .free "len") rfl), He.free_ok X G (c.fact 1 (f := .free "isinstance") rfl), He.free_ok X G (c.fact 2 (f := .free "max") rfl), He.free_ok X G (c.fact 3 (f := .free "any") rfl), He.free_ok X G (c.fact 4 (f := .free "all") rfl), He.free_ok X G (c.fact 5 (f := .free "abs") rfl), He.free_ok X G (c.fact 6 (f := .free "int") rfl), He.free_ok X G (c.fact 7 (f := .free "list") rfl), He.free_ok X G (c.fact 8 (f := .free "tuple") rfl), He.free_ok X G (c.fact 9 (f := .free "set") rfl), He.free_ok X G (c.fact 10 (f := .free "sorted") rfl), He.free_ok X G (c.fact 11 (f := .free "range") rfl), He.free_ok X G (c.fact 12 (f := .free "zip") rfl), He.free_ok X G (c.fact 13 (f := .free "enumerate") rfl), He.int_ok X G (c.fact 14 (f := .int "MOST_NODES" 1000) rfl), He.int_ok X G (c.fact 15 (f := .int "MOST_VARIABLE" 1000000) rfl), He.int_ok X G (c.fact 16 (f := .int "MOST_CROWD" 12) rfl), He.int_ok X G (c.fact 17 (f := .int "MOST_ARGUMENTS" 400) rfl), He.glo_ok X G (c.fact 18 (f := .glo "IDENTITY") rfl), He.tupB_ok ce⟩
  have hP : mg "Position" = some (.ref (He.ga K "Position")) := He.glo_ok X G (c.fact 19 (f := .glo "Position") rfl)
  have cf : Cf K (He.ga K "Position") := ⟨He.cls_ok (c.fact 20 (f := .cls "Position") rfl), He.noat_ok (c.fact 23 (f := .noat "Position" "abstractions") rfl), He.noat_ok (c.fact 24 (f := .noat "Position" "first_level") rfl), He.noat_ok (c.fact 25 (f := .noat "Position" "heads") rfl), He.noat_ok (c.fact 26 (f := .noat "Position" "turn") rfl)⟩
  have XT : Et K mg (He.ga K "TooLarge") := by
    obtain ⟨e1, e2, e3, e4⟩ := He.exc_ok (c.fact 27 (f := .exc "TooLarge") rfl)
    exact ⟨He.glo_ok X G (c.fact 29 (f := .glo "TooLarge") rfl), e2, e1, e3, e4, He.exm_ok (c.fact 28 (f := .exm "TooLarge" "TooLarge" true) rfl)⟩
  obtain ⟨fd_law, F0_law⟩ := c.def_ 58 (d := d_law) rfl
  have e := hfa.symm.trans (He.glo_ok X G (c.fact 86 (f := .glo "law") rfl))
  cases e
  have b := FunD.bindsA (ps := ["_law_script"]) F0_law fun _ _ _ _ _ _ us hl => match us, hl with | [_], _ => rfl
  refine ⟨fd_law, fun s v => b s [v] rfl, fun base _ _ => ?_⟩
  obtain ⟨fd__law_applied, F0__law_applied⟩ := c.def_ 53 (d := d__law_applied) rfl
  have F__law_applied : Fun K "_law_applied" "_law_applied" s__law_applied (He.ga K "_law_applied") fd__law_applied := fun_of F0__law_applied
  have D__law_applied : Df P w K mg base 1 "_law_applied" ["_law_term", "_law_rows"] (sp__law_applied K (He.ga K "Position")) := ok__law_applied TX F__law_applied (He.glo_ok X G (c.fact 81 (f := .glo "_law_applied") rfl)) 
  obtain ⟨fd__law_redexes, F0__law_redexes⟩ := c.def_ 44 (d := d__law_redexes) rfl
  have F__law_redexes : Fun K "_law_redexes" "_law_redexes" s__law_redexes (He.ga K "_law_redexes") fd__law_redexes := fun_of F0__law_redexes
  have D__law_redexes : Df P w K mg base 1 "_law_redexes" ["_law_term"] (sp__law_redexes K (He.ga K "Position")) := ok__law_redexes TX F__law_redexes (He.glo_ok X G (c.fact 72 (f := .glo "_law_redexes") rfl)) 
  obtain ⟨fd__law_end, F0__law_end⟩ := c.def_ 39 (d := d__law_end) rfl
  have F__law_end : Fun K "_law_end" "_law_end" s__law_end (He.ga K "_law_end") fd__law_end := fun_of F0__law_end
  have D__law_end : Df P w K mg base 1 "_law_end" ["_law_term", "_law_at"] (sp__law_end K (He.ga K "Position")) := ok__law_end TX F__law_end (He.glo_ok X G (c.fact 67 (f := .glo "_law_end") rfl)) 
  obtain ⟨fd__law_depths, F0__law_depths⟩ := c.def_ 40 (d := d__law_depths) rfl
  have F__law_depths : Fun K "_law_depths" "_law_depths" s__law_depths (He.ga K "_law_depths") fd__law_depths := fun_of F0__law_depths
  have D__law_depths : Df P w K mg base 1 "_law_depths" ["_law_term"] (sp__law_depths K (He.ga K "Position")) := ok__law_depths TX F__law_depths (He.glo_ok X G (c.fact 68 (f := .glo "_law_depths") rfl)) 
  obtain ⟨fd__law_lift, F0__law_lift⟩ := c.def_ 41 (d := d__law_lift) rfl
  have F__law_lift : Fun K "_law_lift" "_law_lift" s__law_lift (He.ga K "_law_lift") fd__law_lift := fun_of F0__law_lift
  have D__law_lift : Df P w K mg base 2 "_law_lift" ["_law_term", "_law_count"] (sp__law_lift K (He.ga K "Position")) := ok__law_lift TX F__law_lift (He.glo_ok X G (c.fact 69 (f := .glo "_law_lift") rfl)) D__law_depths
  obtain ⟨fd__law_put, F0__law_put⟩ := c.def_ 42 (d := d__law_put) rfl
  have F__law_put : Fun K "_law_put" "_law_put" s__law_put (He.ga K "_law_put") fd__law_put := fun_of F0__law_put
  have D__law_put : Df P w K mg base 3 "_law_put" ["_law_term", "_law_value"] (sp__law_put K (He.ga K "Position")) := ok__law_put TX F__law_put (He.glo_ok X G (c.fact 70 (f := .glo "_law_put") rfl)) D__law_depths D__law_lift
  obtain ⟨fd__law_step, F0__law_step⟩ := c.def_ 43 (d := d__law_step) rfl
  have F__law_step : Fun K "_law_step" "_law_step" s__law_step (He.ga K "_law_step") fd__law_step := fun_of F0__law_step
  have D__law_step : Df P w K mg base 4 "_law_step" ["_law_term", "_law_at"] (sp__law_step K (He.ga K "Position")) := ok__law_step TX F__law_step (He.glo_ok X G (c.fact 71 (f := .glo "_law_step") rfl)) D__law_end D__law_put
  obtain ⟨fd__law_leads, F0__law_leads⟩ := c.def_ 55 (d := d__law_leads) rfl
  have F__law_leads : Fun K "_law_leads" "_law_leads" s__law_leads (He.ga K "_law_leads") fd__law_leads := fun_of F0__law_leads
  have D__law_leads : Df P w K mg base 5 "_law_leads" ["_law_term", "_law_due"] (sp__law_leads K (He.ga K "Position")) := ok__law_leads TX F__law_leads (He.glo_ok X G (c.fact 83 (f := .glo "_law_leads") rfl)) D__law_redexes D__law_step
  obtain ⟨fd__law_becomes, F0__law_becomes⟩ := c.def_ 54 (d := d__law_becomes) rfl
  have F__law_becomes : Fun K "_law_becomes" "_law_becomes" s__law_becomes (He.ga K "_law_becomes") fd__law_becomes := fun_of F0__law_becomes
  have D__law_becomes : Df P w K mg base 6 "_law_becomes" ["_law_term", "_law_rows", "_law_due"] (sp__law_becomes K (He.ga K "Position")) := ok__law_becomes TX F__law_becomes (He.glo_ok X G (c.fact 82 (f := .glo "_law_becomes") rfl)) D__law_applied D__law_leads
  obtain ⟨fd__law_draw, F0__law_draw⟩ := c.def_ 38 (d := d__law_draw) rfl
  have F__law_draw : Fun K "_law_draw" "_law_draw" s__law_draw (He.ga K "_law_draw") fd__law_draw := fun_of F0__law_draw
  have D__law_draw : Df P w K mg base 1 "_law_draw" ["_law_stream_here", "_law_many"] (sp__law_draw K (He.ga K "Position")) := ok__law_draw TX F__law_draw (He.glo_ok X G (c.fact 66 (f := .glo "_law_draw") rfl)) 
  obtain ⟨fd__law_form, F0__law_form⟩ := c.def_ 50 (d := d__law_form) rfl
  have F__law_form : Fun K "_law_form" "_law_form" s__law_form (He.ga K "_law_form") fd__law_form := fun_of F0__law_form
  have D__law_form0 : ∀ n : Nat, Df P w K mg base (n + 1) "_law_form" ["_law_stream_here", "_law_widest", "_law_size"] (sp__law_form K (He.ga K "Position") n) := fun n => by
    induction n with
    | zero => exact df_empty (He.glo_ok X G (c.fact 78 (f := .glo "_law_form") rfl)) F__law_form.kp (F__law_form.binds fun _ _ _ _ _ _ us hl => match us, hl with | [_, _, _], _ => rfl) fun vs H Q E h => by obtain ⟨Z, B, g, _, _, _, _, h, _⟩ := h; exact absurd h.1 (Nat.not_lt_zero _)
    | succ n ih => exact (ok__law_form TX F__law_form (He.glo_ok X G (c.fact 78 (f := .glo "_law_form") rfl)) (by omega) D__law_draw ih : Df P w K mg base (n + 1 + 1) "_law_form" ["_law_stream_here", "_law_widest", "_law_size"] (sp__law_form K (He.ga K "Position") (n + 1)))
  have D__law_form : Df P w K mg base 15 "_law_form" ["_law_stream_here", "_law_widest", "_law_size"] (sp__law_form K (He.ga K "Position") 13) := df_mono (D__law_form0 13) (by decide)
  obtain ⟨fd__law_normal, F0__law_normal⟩ := c.def_ 47 (d := d__law_normal) rfl
  have F__law_normal : Fun K "_law_normal" "_law_normal" s__law_normal (He.ga K "_law_normal") fd__law_normal := fun_of F0__law_normal
  have D__law_normal : Df P w K mg base 5 "_law_normal" ["_law_term", "_law_steps"] (sp__law_normal K (He.ga K "Position")) := ok__law_normal TX F__law_normal (He.glo_ok X G (c.fact 75 (f := .glo "_law_normal") rfl)) D__law_redexes D__law_step
  obtain ⟨fd__law_inner, F0__law_inner⟩ := c.def_ 45 (d := d__law_inner) rfl
  have F__law_inner : Fun K "_law_inner" "_law_inner" s__law_inner (He.ga K "_law_inner") fd__law_inner := fun_of F0__law_inner
  have D__law_inner0 : ∀ n : Nat, Df P w K mg base (n + 1) "_law_inner" ["_law_stream_here", "_law_size"] (sp__law_inner K (He.ga K "Position") n) := fun n => by
    induction n with
    | zero => exact df_empty (He.glo_ok X G (c.fact 73 (f := .glo "_law_inner") rfl)) F__law_inner.kp (F__law_inner.binds fun _ _ _ _ _ _ us hl => match us, hl with | [_, _], _ => rfl) fun vs H Q E h => by obtain ⟨Z, B, g, _, _, _, _, h, _⟩ := h; exact absurd h.1 (Nat.not_lt_zero _)
    | succ n ih => exact (ok__law_inner TX F__law_inner (He.glo_ok X G (c.fact 73 (f := .glo "_law_inner") rfl)) (by omega) D__law_draw ih : Df P w K mg base (n + 1 + 1) "_law_inner" ["_law_stream_here", "_law_size"] (sp__law_inner K (He.ga K "Position") (n + 1)))
  have D__law_inner : Df P w K mg base 14 "_law_inner" ["_law_stream_here", "_law_size"] (sp__law_inner K (He.ga K "Position") 13) := df_mono (D__law_inner0 13) (by decide)
  obtain ⟨fd__law_body, F0__law_body⟩ := c.def_ 46 (d := d__law_body) rfl
  have F__law_body : Fun K "_law_body" "_law_body" s__law_body (He.ga K "_law_body") fd__law_body := fun_of F0__law_body
  have D__law_body0 : ∀ n : Nat, Df P w K mg base (n + 14) "_law_body" ["_law_stream_here", "_law_widest", "_law_size"] (sp__law_body K (He.ga K "Position") n) := fun n => by
    induction n with
    | zero => exact df_empty (He.glo_ok X G (c.fact 74 (f := .glo "_law_body") rfl)) F__law_body.kp (F__law_body.binds fun _ _ _ _ _ _ us hl => match us, hl with | [_, _, _], _ => rfl) fun vs H Q E h => by obtain ⟨Z, B, g, _, _, _, _, h, _⟩ := h; exact absurd h.1 (Nat.not_lt_zero _)
    | succ n ih => exact (ok__law_body TX F__law_body (He.glo_ok X G (c.fact 74 (f := .glo "_law_body") rfl)) (by omega) ih D__law_draw D__law_inner : Df P w K mg base (n + 14 + 1) "_law_body" ["_law_stream_here", "_law_widest", "_law_size"] (sp__law_body K (He.ga K "Position") (n + 1)))
  have D__law_body : Df P w K mg base 28 "_law_body" ["_law_stream_here", "_law_widest", "_law_size"] (sp__law_body K (He.ga K "Position") 13) := df_mono (D__law_body0 13) (by decide)
  obtain ⟨fd__law_closed, F0__law_closed⟩ := c.def_ 49 (d := d__law_closed) rfl
  have F__law_closed : Fun K "_law_closed" "_law_closed" s__law_closed (He.ga K "_law_closed") fd__law_closed := fun_of F0__law_closed
  have D__law_closed : Df P w K mg base 29 "_law_closed" ["_law_stream_here", "_law_size"] (sp__law_closed K (He.ga K "Position")) := ok__law_closed TX F__law_closed (He.glo_ok X G (c.fact 77 (f := .glo "_law_closed") rfl)) D__law_body D__law_draw D__law_form
  obtain ⟨fd__law_near, F0__law_near⟩ := c.def_ 51 (d := d__law_near) rfl
  have F__law_near : Fun K "_law_near" "_law_near" s__law_near (He.ga K "_law_near") fd__law_near := fun_of F0__law_near
  have D__law_near : Df P w K mg base 2 "_law_near" ["_law_stream_here", "_law_term"] (sp__law_near K (He.ga K "Position")) := ok__law_near TX F__law_near (He.glo_ok X G (c.fact 79 (f := .glo "_law_near") rfl)) D__law_depths D__law_draw
  obtain ⟨fd__law_shrink, F0__law_shrink⟩ := c.def_ 48 (d := d__law_shrink) rfl
  have F__law_shrink : Fun K "_law_shrink" "_law_shrink" s__law_shrink (He.ga K "_law_shrink") fd__law_shrink := fun_of F0__law_shrink
  have D__law_shrink : Df P w K mg base 2 "_law_shrink" ["_law_term"] (sp__law_shrink K (He.ga K "Position")) := ok__law_shrink TX F__law_shrink (He.glo_ok X G (c.fact 76 (f := .glo "_law_shrink") rfl)) D__law_depths D__law_end
  obtain ⟨fd__law_pair, F0__law_pair⟩ := c.def_ 57 (d := d__law_pair) rfl
  have F__law_pair : Fun K "_law_pair" "_law_pair" s__law_pair (He.ga K "_law_pair") fd__law_pair := fun_of F0__law_pair
  have D__law_pair : Df P w K mg base 30 "_law_pair" ["_law_stream_here"] (sp__law_pair K (He.ga K "Position")) := ok__law_pair TX F__law_pair (He.glo_ok X G (c.fact 85 (f := .glo "_law_pair") rfl)) D__law_closed D__law_draw D__law_near D__law_normal D__law_shrink
  obtain ⟨fd__law_projection, F0__law_projection⟩ := c.def_ 52 (d := d__law_projection) rfl
  have F__law_projection : Fun K "_law_projection" "_law_projection" s__law_projection (He.ga K "_law_projection") fd__law_projection := fun_of F0__law_projection
  have D__law_projection : Df P w K mg base 1 "_law_projection" ["_law_index", "_law_count"] (sp__law_projection K (He.ga K "Position")) := ok__law_projection TX F__law_projection (He.glo_ok X G (c.fact 80 (f := .glo "_law_projection") rfl)) 
  obtain ⟨fd__law_stream, F0__law_stream⟩ := c.def_ 37 (d := d__law_stream) rfl
  have F__law_stream : Fun K "_law_stream" "_law_stream" s__law_stream (He.ga K "_law_stream") fd__law_stream := fun_of F0__law_stream
  have D__law_stream : Df P w K mg base 1 "_law_stream" ["_law_script"] (sp__law_stream K (He.ga K "Position")) := ok__law_stream TX F__law_stream (He.glo_ok X G (c.fact 65 (f := .glo "_law_stream") rfl)) 
  obtain ⟨fd_Position_levels, F0_Position_levels⟩ := c.def_ 27 (d := d_Position_levels) rfl
  have F_Position_levels : Fun K "levels" "Position.levels" s_Position_levels (He.ma K (He.ga K "Position") "levels") fd_Position_levels := fun_of F0_Position_levels
  have D_Position_levels : Dm P w K mg base 1 (He.ga K "Position") "levels" ["self"] (sp_Position_levels K (He.ga K "Position")) := ok_Position_levels TX F_Position_levels (He.meth_ok (c.fact 22 (f := .meth "Position" "levels") rfl)) cf 
  obtain ⟨fd_abstracted_by, F0_abstracted_by⟩ := c.def_ 23 (d := d_abstracted_by) rfl
  have F_abstracted_by : Fun K "abstracted_by" "abstracted_by" s_abstracted_by (He.ga K "abstracted_by") fd_abstracted_by := fun_of F0_abstracted_by
  have D_abstracted_by : Df P w K mg base 1 "abstracted_by" ["count", "term"] (sp_abstracted_by K (He.ga K "Position")) := ok_abstracted_by TX F_abstracted_by (He.glo_ok X G (c.fact 53 (f := .glo "abstracted_by") rfl)) 
  obtain ⟨fd_projection, F0_projection⟩ := c.def_ 24 (d := d_projection) rfl
  have F_projection : Fun K "projection" "projection" s_projection (He.ga K "projection") fd_projection := fun_of F0_projection
  have D_projection : Df P w K mg base 2 "projection" ["index", "count"] (sp_projection K (He.ga K "Position")) := ok_projection TX F_projection (He.glo_ok X G (c.fact 54 (f := .glo "projection") rfl)) D_abstracted_by
  obtain ⟨fd_choices_at_end, F0_choices_at_end⟩ := c.def_ 34 (d := d_choices_at_end) rfl
  have F_choices_at_end : Fun K "choices_at_end" "choices_at_end" s_choices_at_end (He.ga K "choices_at_end") fd_choices_at_end := fun_of F0_choices_at_end
  have D_choices_at_end : Df P w K mg base 3 "choices_at_end" ["ends", "widths", "groups"] (sp_choices_at_end K (He.ga K "Position")) := ok_choices_at_end TX F_choices_at_end (He.glo_ok X G (c.fact 62 (f := .glo "choices_at_end") rfl)) D_abstracted_by D_projection
  obtain ⟨fd_groups_of, F0_groups_of⟩ := c.def_ 32 (d := d_groups_of) rfl
  have F_groups_of : Fun K "groups_of" "groups_of" s_groups_of (He.ga K "groups_of") fd_groups_of := fun_of F0_groups_of
  have D_groups_of : Df P w K mg base 1 "groups_of" ["ends"] (sp_groups_of K (He.ga K "Position")) := ok_groups_of TX F_groups_of (He.glo_ok X G (c.fact 60 (f := .glo "groups_of") rfl)) 
  obtain ⟨fd_end_of, F0_end_of⟩ := c.def_ 1 (d := d_end_of) rfl
  have F_end_of : Fun K "end_of" "end_of" s_end_of (He.ga K "end_of") fd_end_of := fun_of F0_end_of
  have D_end_of : Df P w K mg base 1 "end_of" ["nodes", "start"] (sp_end_of K (He.ga K "Position")) := ok_end_of TX F_end_of (He.glo_ok X G (c.fact 31 (f := .glo "end_of") rfl)) 
  obtain ⟨fd_end_of_head, F0_end_of_head⟩ := c.def_ 10 (d := d_end_of_head) rfl
  have F_end_of_head : Fun K "end_of_head" "end_of_head" s_end_of_head (He.ga K "end_of_head") fd_end_of_head := fun_of F0_end_of_head
  have D_end_of_head : Df P w K mg base 1 "end_of_head" ["term", "start"] (sp_end_of_head K (He.ga K "Position")) := ok_end_of_head TX F_end_of_head (He.glo_ok X G (c.fact 40 (f := .glo "end_of_head") rfl)) 
  obtain ⟨fd_opened, F0_opened⟩ := c.def_ 9 (d := d_opened) rfl
  have F_opened : Fun K "opened" "opened" s_opened (He.ga K "opened") fd_opened := fun_of F0_opened
  have D_opened : Df P w K mg base 2 "opened" ["term"] (sp_opened K (He.ga K "Position")) := ok_opened TX F_opened (He.glo_ok X G (c.fact 39 (f := .glo "opened") rfl)) D_end_of_head
  obtain ⟨fd_head, F0_head⟩ := c.def_ 11 (d := d_head) rfl
  have F_head : Fun K "head" "head" s_head (He.ga K "head") fd_head := fun_of F0_head
  have D_head : Df P w K mg base 3 "head" ["term"] (sp_head K (He.ga K "Position")) := ok_head TX F_head (He.glo_ok X G (c.fact 41 (f := .glo "head") rfl)) D_end_of D_opened
  obtain ⟨fd_most_abstractions, F0_most_abstractions⟩ := c.def_ 16 (d := d_most_abstractions) rfl
  have F_most_abstractions : Fun K "most_abstractions" "most_abstractions" s_most_abstractions (He.ga K "most_abstractions") fd_most_abstractions := fun_of F0_most_abstractions
  have D_most_abstractions : Df P w K mg base 4 "most_abstractions" ["terms"] (sp_most_abstractions K (He.ga K "Position")) := ok_most_abstractions TX F_most_abstractions (He.glo_ok X G (c.fact 46 (f := .glo "most_abstractions") rfl)) D_head
  obtain ⟨fd_checked, F0_checked⟩ := c.def_ 0 (d := d_checked) rfl
  have F_checked : Fun K "checked" "checked" s_checked (He.ga K "checked") fd_checked := fun_of F0_checked
  have D_checked : Df P w K mg base 1 "checked" ["nodes"] (sp_checked K (He.ga K "Position")) := ok_checked TX F_checked (He.glo_ok X G (c.fact 30 (f := .glo "checked") rfl)) 
  obtain ⟨fd_depths, F0_depths⟩ := c.def_ 2 (d := d_depths) rfl
  have F_depths : Fun K "depths" "depths" s_depths (He.ga K "depths") fd_depths := fun_of F0_depths
  have D_depths : Df P w K mg base 1 "depths" ["nodes"] (sp_depths K (He.ga K "Position")) := ok_depths TX F_depths (He.glo_ok X G (c.fact 32 (f := .glo "depths") rfl)) 
  obtain ⟨fd_lifted, F0_lifted⟩ := c.def_ 4 (d := d_lifted) rfl
  have F_lifted : Fun K "lifted" "lifted" s_lifted (He.ga K "lifted") fd_lifted := fun_of F0_lifted
  have D_lifted : Df P w K mg base 2 "lifted" ["nodes", "count"] (sp_lifted K (He.ga K "Position")) := ok_lifted TX F_lifted (He.glo_ok X G (c.fact 34 (f := .glo "lifted") rfl)) D_depths
  obtain ⟨fd_lift, F0_lift⟩ := c.def_ 5 (d := d_lift) rfl
  have F_lift : Fun K "lift" "lift" s_lift (He.ga K "lift") fd_lift := fun_of F0_lift
  have D_lift : Df P w K mg base 3 "lift" ["term", "count"] (sp_lift K (He.ga K "Position")) := ok_lift TX F_lift (He.glo_ok X G (c.fact 35 (f := .glo "lift") rfl)) D_checked D_lifted
  obtain ⟨fd_stretched, F0_stretched⟩ := c.def_ 15 (d := d_stretched) rfl
  have F_stretched : Fun K "stretched" "stretched" s_stretched (He.ga K "stretched") fd_stretched := fun_of F0_stretched
  have D_stretched : Df P w K mg base 4 "stretched" ["term", "count"] (sp_stretched K (He.ga K "Position")) := ok_stretched TX F_stretched (He.glo_ok X G (c.fact 45 (f := .glo "stretched") rfl)) D_head D_lift
  obtain ⟨fd_look, F0_look⟩ := c.def_ 17 (d := d_look) rfl
  have F_look : Fun K "look" "look" s_look (He.ga K "look") fd_look := fun_of F0_look
  have D_look : Df P w K mg base 5 "look" ["terms"] (sp_look K (He.ga K "Position")) := ok_look TX F_look (He.glo_ok X G (c.fact 47 (f := .glo "look") rfl)) D_most_abstractions D_stretched
  obtain ⟨fd_Position___init__, F0_Position___init__⟩ := c.def_ 26 (d := d_Position___init__) rfl
  have F_Position___init__ : Fun K "__init__" "Position.__init__" s_Position___init__ (He.ma K (He.ga K "Position") "__init__") fd_Position___init__ := fun_of F0_Position___init__
  have D_Position___init__ : Dk P w K mg base 6 (He.ga K "Position") ["self", "terms", "offset"] (sp_Position___init__ K (He.ga K "Position")) := ok_Position___init__ TX F_Position___init__ (He.mkr_ok (c.fact 21 (f := .mkr "Position") rfl)) cf D_look D_most_abstractions
  obtain ⟨fd_free, F0_free⟩ := c.def_ 3 (d := d_free) rfl
  have F_free : Fun K "free" "free" s_free (He.ga K "free") fd_free := fun_of F0_free
  have D_free : Df P w K mg base 2 "free" ["term"] (sp_free K (He.ga K "Position")) := ok_free TX F_free (He.glo_ok X G (c.fact 33 (f := .glo "free") rfl)) D_depths
  obtain ⟨fd_uses, F0_uses⟩ := c.def_ 12 (d := d_uses) rfl
  have F_uses : Fun K "uses" "uses" s_uses (He.ga K "uses") fd_uses := fun_of F0_uses
  have D_uses : Df P w K mg base 1 "uses" ["nodes"] (sp_uses K (He.ga K "Position")) := ok_uses TX F_uses (He.glo_ok X G (c.fact 42 (f := .glo "uses") rfl)) 
  obtain ⟨fd_is_needless, F0_is_needless⟩ := c.def_ 13 (d := d_is_needless) rfl
  have F_is_needless : Fun K "is_needless" "is_needless" s_is_needless (He.ga K "is_needless") fd_is_needless := fun_of F0_is_needless
  have D_is_needless : Df P w K mg base 2 "is_needless" ["term", "at"] (sp_is_needless K (He.ga K "Position")) := ok_is_needless TX F_is_needless (He.glo_ok X G (c.fact 43 (f := .glo "is_needless") rfl)) D_end_of D_uses
  obtain ⟨fd_placed_nodes, F0_placed_nodes⟩ := c.def_ 6 (d := d_placed_nodes) rfl
  have F_placed_nodes : Fun K "placed_nodes" "placed_nodes" s_placed_nodes (He.ga K "placed_nodes") fd_placed_nodes := fun_of F0_placed_nodes
  have D_placed_nodes : Df P w K mg base 1 "placed_nodes" ["nodes"] (sp_placed_nodes K (He.ga K "Position")) := ok_placed_nodes TX F_placed_nodes (He.glo_ok X G (c.fact 36 (f := .glo "placed_nodes") rfl)) 
  obtain ⟨fd_needless, F0_needless⟩ := c.def_ 14 (d := d_needless) rfl
  have F_needless : Fun K "needless" "needless" s_needless (He.ga K "needless") fd_needless := fun_of F0_needless
  have D_needless : Df P w K mg base 3 "needless" ["term"] (sp_needless K (He.ga K "Position")) := ok_needless TX F_needless (He.glo_ok X G (c.fact 44 (f := .glo "needless") rfl)) D_is_needless D_placed_nodes
  obtain ⟨fd_is_redex, F0_is_redex⟩ := c.def_ 7 (d := d_is_redex) rfl
  have F_is_redex : Fun K "is_redex" "is_redex" s_is_redex (He.ga K "is_redex") fd_is_redex := fun_of F0_is_redex
  have D_is_redex : Df P w K mg base 1 "is_redex" ["nodes", "at"] (sp_is_redex K (He.ga K "Position")) := ok_is_redex TX F_is_redex (He.glo_ok X G (c.fact 37 (f := .glo "is_redex") rfl)) 
  obtain ⟨fd_redexes, F0_redexes⟩ := c.def_ 8 (d := d_redexes) rfl
  have F_redexes : Fun K "redexes" "redexes" s_redexes (He.ga K "redexes") fd_redexes := fun_of F0_redexes
  have D_redexes : Df P w K mg base 2 "redexes" ["term"] (sp_redexes K (He.ga K "Position")) := ok_redexes TX F_redexes (He.glo_ok X G (c.fact 38 (f := .glo "redexes") rfl)) D_is_redex D_placed_nodes
  obtain ⟨fd_is_fully_normal, F0_is_fully_normal⟩ := c.def_ 19 (d := d_is_fully_normal) rfl
  have F_is_fully_normal : Fun K "is_fully_normal" "is_fully_normal" s_is_fully_normal (He.ga K "is_fully_normal") fd_is_fully_normal := fun_of F0_is_fully_normal
  have D_is_fully_normal : Df P w K mg base 4 "is_fully_normal" ["term"] (sp_is_fully_normal K (He.ga K "Position")) := ok_is_fully_normal TX F_is_fully_normal (He.glo_ok X G (c.fact 49 (f := .glo "is_fully_normal") rfl)) D_needless D_redexes
  obtain ⟨fd_check_crowd, F0_check_crowd⟩ := c.def_ 20 (d := d_check_crowd) rfl
  have F_check_crowd : Fun K "check_crowd" "check_crowd" s_check_crowd (He.ga K "check_crowd") fd_check_crowd := fun_of F0_check_crowd
  have D_check_crowd : Df P w K mg base 5 "check_crowd" ["terms"] (sp_check_crowd K (He.ga K "Position")) := ok_check_crowd TX F_check_crowd (He.glo_ok X G (c.fact 50 (f := .glo "check_crowd") rfl)) D_free D_is_fully_normal
  obtain ⟨fd_next_turn, F0_next_turn⟩ := c.def_ 21 (d := d_next_turn) rfl
  have F_next_turn : Fun K "next_turn" "next_turn" s_next_turn (He.ga K "next_turn") fd_next_turn := fun_of F0_next_turn
  have D_next_turn : Df P w K mg base 1 "next_turn" ["heads"] (sp_next_turn K (He.ga K "Position")) := ok_next_turn TX F_next_turn (He.glo_ok X G (c.fact 51 (f := .glo "next_turn") rfl)) 
  obtain ⟨fd_same_heads, F0_same_heads⟩ := c.def_ 18 (d := d_same_heads) rfl
  have F_same_heads : Fun K "same_heads" "same_heads" s_same_heads (He.ga K "same_heads") fd_same_heads := fun_of F0_same_heads
  have D_same_heads : Df P w K mg base 1 "same_heads" ["heads"] (sp_same_heads K (He.ga K "Position")) := ok_same_heads TX F_same_heads (He.glo_ok X G (c.fact 48 (f := .glo "same_heads") rfl)) 
  obtain ⟨fd_turns, F0_turns⟩ := c.def_ 22 (d := d_turns) rfl
  have F_turns : Fun K "turns" "turns" s_turns (He.ga K "turns") fd_turns := fun_of F0_turns
  have D_turns : Df P w K mg base 6 "turns" ["crowd"] (sp_turns K (He.ga K "Position")) := ok_turns TX F_turns (He.glo_ok X G (c.fact 52 (f := .glo "turns") rfl)) D_check_crowd D_look D_next_turn D_same_heads
  obtain ⟨fd_positions_of, F0_positions_of⟩ := c.def_ 28 (d := d_positions_of) rfl
  have F_positions_of : Fun K "positions_of" "positions_of" s_positions_of (He.ga K "positions_of") fd_positions_of := fun_of F0_positions_of
  have D_positions_of : Df P w K mg base 9 "positions_of" ["crowd"] (sp_positions_of K (He.ga K "Position")) := ok_positions_of TX F_positions_of (He.glo_ok X G (c.fact 56 (f := .glo "positions_of") rfl)) cf D_Position___init__ hP D_turns
  obtain ⟨fd_tupler, F0_tupler⟩ := c.def_ 25 (d := d_tupler) rfl
  have F_tupler : Fun K "tupler" "tupler" s_tupler (He.ga K "tupler") fd_tupler := fun_of F0_tupler
  have D_tupler : Df P w K mg base 2 "tupler" ["count"] (sp_tupler K (He.ga K "Position")) := ok_tupler TX F_tupler (He.glo_ok X G (c.fact 55 (f := .glo "tupler") rfl)) D_abstracted_by D_checked
  obtain ⟨fd_tuplers_of, F0_tuplers_of⟩ := c.def_ 33 (d := d_tuplers_of) rfl
  have F_tuplers_of : Fun K "tuplers_of" "tuplers_of" s_tuplers_of (He.ga K "tuplers_of") fd_tuplers_of := fun_of F0_tuplers_of
  have D_tuplers_of : Df P w K mg base 3 "tuplers_of" ["position", "widths"] (sp_tuplers_of K (He.ga K "Position")) := ok_tuplers_of TX F_tuplers_of (He.glo_ok X G (c.fact 61 (f := .glo "tuplers_of") rfl)) cf D_tupler
  obtain ⟨fd_clashes, F0_clashes⟩ := c.def_ 30 (d := d_clashes) rfl
  have F_clashes : Fun K "clashes" "clashes" s_clashes (He.ga K "clashes") fd_clashes := fun_of F0_clashes
  have D_clashes : Df P w K mg base 1 "clashes" ["width", "level", "ends", "settled"] (sp_clashes K (He.ga K "Position")) := ok_clashes TX F_clashes (He.glo_ok X G (c.fact 58 (f := .glo "clashes") rfl)) 
  obtain ⟨fd_needs_of, F0_needs_of⟩ := c.def_ 29 (d := d_needs_of) rfl
  have F_needs_of : Fun K "needs_of" "needs_of" s_needs_of (He.ga K "needs_of") fd_needs_of := fun_of F0_needs_of
  have D_needs_of : Df P w K mg base 2 "needs_of" ["positions"] (sp_needs_of K (He.ga K "Position")) := ok_needs_of TX F_needs_of (He.glo_ok X G (c.fact 57 (f := .glo "needs_of") rfl)) cf D_Position_levels
  obtain ⟨fd_widths_of, F0_widths_of⟩ := c.def_ 31 (d := d_widths_of) rfl
  have F_widths_of : Fun K "widths_of" "widths_of" s_widths_of (He.ga K "widths_of") fd_widths_of := fun_of F0_widths_of
  have D_widths_of : Df P w K mg base 3 "widths_of" ["positions"] (sp_widths_of K (He.ga K "Position")) := ok_widths_of TX F_widths_of (He.glo_ok X G (c.fact 59 (f := .glo "widths_of") rfl)) cf D_Position_levels D_clashes D_needs_of
  obtain ⟨fd_separate, F0_separate⟩ := c.def_ 35 (d := d_separate) rfl
  have F_separate : Fun K "separate" "separate" s_separate (He.ga K "separate") fd_separate := fun_of F0_separate
  have D_separate : De P w K mg base 10 "separate" ["crowd"] (sp_separate K (He.ga K "Position") (He.ga K "TooLarge")) := ok_separate TX XT F_separate (He.glo_ok X G (c.fact 63 (f := .glo "separate") rfl)) cf D_Position_levels D_choices_at_end D_groups_of D_positions_of D_projection D_tuplers_of D_widths_of
  obtain ⟨fd_tell, F0_tell⟩ := c.def_ 36 (d := d_tell) rfl
  have F_tell : Fun K "tell" "tell" s_tell (He.ga K "tell") fd_tell := fun_of F0_tell
  have D_tell : De P w K mg base 11 "tell" ["first", "second"] (sp_tell K (He.ga K "Position") (He.ga K "TooLarge")) := ok_tell TX F_tell (He.glo_ok X G (c.fact 64 (f := .glo "tell") rfl)) D_separate
  obtain ⟨fd__law_tell, F0__law_tell⟩ := c.def_ 56 (d := d__law_tell) rfl
  have F__law_tell : Fun K "_law_tell" "_law_tell" s__law_tell (He.ga K "_law_tell") fd__law_tell := fun_of F0__law_tell
  have D__law_tell : Df P w K mg base 12 "_law_tell" ["_law_first", "_law_second"] (sp__law_tell K (He.ga K "Position")) := ok__law_tell TX XT F__law_tell (He.glo_ok X G (c.fact 84 (f := .glo "_law_tell") rfl)) D_tell
  have F_law : Fun K "law" "law" s_law (He.ga K "law") fd_law := fun_of F0_law
  exact ok_law (P := P) (w := w) (base := base) TX F_law math D__law_applied D__law_becomes D__law_draw D__law_form D__law_normal D__law_pair D__law_projection D__law_shrink D__law_stream D__law_tell
end Wk
end
set_option Elab.async false
set_option autoImplicit false
set_option linter.all false
set_option maxRecDepth 100000
set_option maxHeartbeats 0
open PySem PySem.W PySem.Calls PyProof.Rows
theorem PySem.Challenge.cw_lydite_k99_whole_told_apart_holds : PySem.Challenge.rw_lydite_k99_whole_told_apart.Holds := by
  w_on; o_law
  refine HandSHeadRun.head_any (r := OpenLaw.row PySem.Challenge.rw_lydite_k99_whole_told_apart) (q := view (OpenLaw.row PySem.Challenge.rw_lydite_k99_whole_told_apart).prog [79]) (H := Wk.hk) (ob := Wk.ob) (M := 12000) (loose := Wk.lo) (d := HandSHeadRun.topDef (OpenLaw.row PySem.Challenge.rw_lydite_k99_whole_told_apart).prog 79) (kwd := []) Wk.ob_eq
    (by kernel_rfl) (fun s => by kernel_rfl) Wk.run (by kernel_rfl) (by kernel_rfl) (by kernel_rfl) (by rfl) (by first | assumption | decide +kernel) (by decide +kernel) ⟨rfl, rfl, rfl, rfl, rfl, by decide +kernel⟩ ?hw ?hc
  case hw => w_witness2
  case hc =>
    refine L2.walk_ofE (l := PySem.Challenge.rw_lydite_k99_whole_told_apart) (n := 63) (k := 31) (x := "_law_script") (CX := L2.CX0) rfl (by decide) (by kernel_rfl) ⟨rfl, by decide, by decide⟩ ?F (fun _ _ _ _ z => z)
    intro w mg fa h Y G hmg0
    obtain ⟨K, KX, c, ce⟩ := Y
    have hmg : mg ("law" : PySem.Str) = some (.ref fa) := by
      have e : (HandSHeadRun.topDef (OpenLaw.row PySem.Challenge.rw_lydite_k99_whole_told_apart).prog 79).name = ("law" : PySem.Str) := by kernel_rfl
      rw [← e]
      exact hmg0
    obtain ⟨fd, hb, hF⟩ := Wk.facts (P := (PySem.Challenge.rw_lydite_k99_whole_told_apart).prog) (w := w) KX G hmg c ce
    exact ⟨K, fd, Wk.sp_law K (He.ga K "Position"), KX, hb, fun H a ns hl _ hS => ⟨a, ns, rfl, hS, fun _ => rfl⟩, hF⟩
