import PyProof.Rows.All
import Wide.All
import OpenK.AllK
import Wide.FinOn
import HandS.ForMost
import HandS.Exc
import HandS.TryOnly
import HandS.Wide
import HandS.WideBits
import HandS.StrMore
import HandS.Replace
import HandS.IsInst
import HandS.ExcInit
import KE.KExcSuper
import HandS.Deep
import HandS.Style
import HandS.RaiseMore
import HandS.Zip
import HandS.Ends
import HandS.EndBits
import HandS.ExcSuper
import HandS.Text
import HandS.Words
import KE.IntTextLaws
import PyProof.Rows.StrItems
import PyProof.Rows.StrSplitJoin
import PySem.Challenge.RW_fewnonzero_k85_whole_wrong_lines_of_tabl
set_option linter.all false
set_option Elab.async false
set_option maxRecDepth 100000
set_option maxHeartbeats 4000000
/-! Ev1: trees, owned values, slots, results; what stands for them in a heap; steps. -/
namespace Ev
open PySem PySem.Spec PyProof.Rows L2

/-! ### values: frozen trees (PyData), owned lists, caught errors -/
inductive W where
  | d (x : PyData)
  | fl (xs : List PyData)
  | ow (ws : List W)
  | ex (C : Nat) (x : PyData)

/-- the slots of a def -/
abbrev Sl := List (Option W)
def gt : Sl → Nat → Option W
  | [], _ => none
  | o :: _, 0 => o
  | _ :: r, n + 1 => gt r n
def pt : Sl → Nat → Option W → Sl
  | [], _, _ => []
  | _ :: r, 0, o => o :: r
  | x :: r, n + 1, o => x :: pt r n o
theorem gt_eq : ∀ (ρ : Sl) (i : Nat), gt ρ i = (ρ[i]?).join
  | [], _ => rfl
  | _ :: _, 0 => rfl
  | _ :: r, n + 1 => by
    show gt r n = _
    rw [gt_eq r n]
    rfl
theorem pt_len : ∀ (ρ : Sl) (i : Nat) (o : Option W), (pt ρ i o).length = ρ.length
  | [], _, _ => rfl
  | _ :: _, 0, _ => rfl
  | _ :: r, n + 1, o => congrArg (· + 1) (pt_len r n o)
theorem gt_pt_same : ∀ {ρ : Sl} {i : Nat} {o : Option W}, i < ρ.length → gt (pt ρ i o) i = o
  | [], _, _, h => absurd h (Nat.not_lt_zero _)
  | _ :: _, 0, _, _ => rfl
  | _ :: r, n + 1, o, h => gt_pt_same (ρ := r) (Nat.lt_of_succ_lt_succ h)
theorem gt_pt_ne : ∀ {ρ : Sl} {i j : Nat} {o : Option W}, j ≠ i → gt (pt ρ i o) j = gt ρ j
  | [], _, _, _, _ => rfl
  | _ :: _, 0, 0, _, h => absurd rfl h
  | _ :: _, 0, _ + 1, _, _ => rfl
  | _ :: _, _ + 1, 0, _, _ => rfl
  | _ :: r, n + 1, m + 1, o, h => gt_pt_ne (ρ := r) (fun e => h (congrArg (· + 1) e))
theorem gt_lt : ∀ {ρ : Sl} {i : Nat} {w : W}, gt ρ i = some w → i < ρ.length
  | [], _, _, h => nomatch h
  | _ :: _, 0, _, _ => Nat.succ_pos _
  | _ :: r, n + 1, _, h => Nat.succ_lt_succ (gt_lt (ρ := r) h)
theorem gt_out {ρ : Sl} {i : Nat} (h : ρ.length ≤ i) : gt ρ i = none := by
  cases e : gt ρ i with
  | none => rfl
  | some w => exact absurd (Nat.lt_of_lt_of_le (gt_lt e) h) (Nat.lt_irrefl _)

/-- what an expression comes to: a value and the slots behind it; an error of class C with its value; nothing is said -/
inductive R (α : Type) where
  | ok (a : α) (ρ : Sl)
  | ex (C : Nat) (x : PyData) (ρ : Sl)
  | no
def R.bd {α β : Type} : R α → (α → Sl → R β) → R β
  | .ok a ρ, f => f a ρ
  | .ex C x ρ, _ => .ex C x ρ
  | .no, _ => .no
@[simp] theorem bd_ok {α β : Type} (a : α) (ρ : Sl) (f : α → Sl → R β) : (R.ok a ρ).bd f = f a ρ := rfl
@[simp] theorem bd_ex {α β : Type} (C : Nat) (x : PyData) (ρ : Sl) (f : α → Sl → R β) : (R.ex C x ρ : R α).bd f = .ex C x ρ := rfl
@[simp] theorem bd_no {α β : Type} (f : α → Sl → R β) : (R.no : R α).bd f = .no := rfl
/-- an operand: a frozen value, or what stands in a slot -/
inductive O where
  | v (x : PyData)
  | s (i : Nat)
/-- what a statement comes to -/
inductive SR where
  | nx (ρ : Sl)
  | rt (w : W) (ρ : Sl)
  | bk (ρ : Sl)
  | ct (ρ : Sl)
  | ex (C : Nat) (x : PyData) (ρ : Sl)
  | no

/-- the frozen tree of an owned value -/
def frz : W → Option PyData
  | .d x => some x
  | .fl xs => some (.list xs)
  | .ow ws => (frzs ws).map .list
  | .ex _ _ => none
where frzs : List W → Option (List PyData)
  | [] => some []
  | w :: ws => (frz w).bind fun x => (frzs ws).bind fun xs => some (x :: xs)
/-- the content, where the items are frozen -/
def co : W → Option PyData
  | .d x => some x
  | .fl xs => some (.list xs)
  | _ => none

/-! ### in the heap -/
/-- a list, a tuple that is not changed any more -/
def ZL (_ : PySem.W.Frag) (Z : Addr → Prop) (H : Hp) (a : Addr) (vs : List V) : Prop := Rd H a (.lst vs) ∧ Z a
def ZT (K : PySem.W.Frag) (Z : Addr → Prop) (H : Hp) (a : Addr) (vs : List V) : Prop := SqT K H a vs ∧ (Z a ∨ ∀ H', SqT K H' a vs)
mutual
inductive RD (K : PySem.W.Frag) (Z : Addr → Prop) (H : Hp) : PyData → V → Prop
  | non : RD K Z H .none .non
  | bl (b : Bool) : RD K Z H (.bool b) (.bl b)
  | int (i : Int) : RD K Z H (.int i) (.int i)
  | str (x : Str) : RD K Z H (.str x) (.str x)
  | lst {a : Addr} {vs : List V} {xs : List PyData} : ZL K Z H a vs → RDs K Z H xs vs → RD K Z H (.list xs) (.ref a)
  | tup {a : Addr} {vs : List V} {xs : List PyData} : ZT K Z H a vs → RDs K Z H xs vs → RD K Z H (.tuple xs) (.ref a)
  | dct {a : Addr} : Z a → H a = some (.dK []) → RD K Z H (.dict []) (.ref a)
inductive RDs (K : PySem.W.Frag) (Z : Addr → Prop) (H : Hp) : List PyData → List V → Prop
  | nil : RDs K Z H [] []
  | cons {x : PyData} {v : V} {xs : List PyData} {vs : List V} : RD K Z H x v → RDs K Z H xs vs → RDs K Z H (x :: xs) (v :: vs)
end

section
variable {K : PySem.W.Frag} {Z Z' : Addr → Prop} {H H' : Hp} {a : Addr} {vs : List V}
theorem Rd.keep {u : HO} (h : Rd H a u) (k : ∀ o, H a = some o → H' a = some o) : Rd H' a u := by
  rcases h with h | ⟨o, h⟩
  · exact .inl (k _ h)
  · exact .inr ⟨o, k _ h⟩
theorem SqT.keep (h : SqT K H a vs) (k : ∀ o, H a = some o → H' a = some o) : SqT K H' a vs := by
  rcases h with (h | ⟨o, h⟩) | h
  · exact .inl (.inl (k _ h))
  · exact .inl (.inr ⟨o, k _ h⟩)
  · exact .inr h
theorem ZL.keep (h : ZL K Z H a vs) (z : ∀ a, Z a → Z' a) (k : ∀ a o, Z a → H a = some o → H' a = some o) : ZL K Z' H' a vs := by
  obtain ⟨h1, h2⟩ := h
  exact ⟨Rd.keep h1 fun o => k a o h2, z a h2⟩
theorem ZT.keep (h : ZT K Z H a vs) (z : ∀ a, Z a → Z' a) (k : ∀ a o, Z a → H a = some o → H' a = some o) : ZT K Z' H' a vs := by
  obtain ⟨h1, h2 | h2⟩ := h
  · exact ⟨SqT.keep h1 fun o => k a o h2, .inl (z a h2)⟩
  · exact ⟨h2 H', .inr h2⟩
mutual
theorem RD.keep (z : ∀ a, Z a → Z' a) (k : ∀ a o, Z a → H a = some o → H' a = some o) : ∀ {x : PyData} {v : V}, RD K Z H x v → RD K Z' H' x v
  | _, _, .non => .non
  | _, _, .bl b => .bl b
  | _, _, .int i => .int i
  | _, _, .str x => .str x
  | _, _, .lst h r => .lst (h.keep z k) (RDs.keep z k r)
  | _, _, .tup h r => .tup (h.keep z k) (RDs.keep z k r)
  | _, _, .dct h e => .dct (z _ h) (k _ _ h e)
theorem RDs.keep (z : ∀ a, Z a → Z' a) (k : ∀ a o, Z a → H a = some o → H' a = some o) : ∀ {xs : List PyData} {vs : List V}, RDs K Z H xs vs → RDs K Z' H' xs vs
  | _, _, .nil => .nil
  | _, _, .cons h r => .cons (RD.keep z k h) (RDs.keep z k r)
end
theorem RDs.len : ∀ {xs : List PyData} {vs : List V}, RDs K Z H xs vs → vs.length = xs.length
  | _, _, .nil => rfl
  | _, _, .cons _ r => congrArg (· + 1) (RDs.len r)
theorem RDs.get : ∀ {xs : List PyData} {vs : List V} {i : Nat} {x : PyData}, RDs K Z H xs vs → xs[i]? = some x → ∃ v, vs[i]? = some v ∧ RD K Z H x v
  | _, _, _, _, .nil, e => by simp at e
  | _, _, 0, _, .cons h _, e => by simp at e; subst e; exact ⟨_, rfl, h⟩
  | _, _, i + 1, _, .cons _ r, e => by
    obtain ⟨v, h1, h2⟩ := RDs.get (i := i) r (by simpa using e)
    exact ⟨v, by simpa using h1, h2⟩
theorem RDs.get' : ∀ {xs : List PyData} {vs : List V} {i : Nat} {v : V}, RDs K Z H xs vs → vs[i]? = some v → ∃ x, xs[i]? = some x ∧ RD K Z H x v
  | _, _, _, _, .nil, e => by simp at e
  | _, _, 0, _, .cons h _, e => by simp at e; subst e; exact ⟨_, rfl, h⟩
  | _, _, i + 1, _, .cons _ r, e => by
    obtain ⟨v, h1, h2⟩ := RDs.get' (i := i) r (by simpa using e)
    exact ⟨v, by simpa using h1, h2⟩
theorem RDs.app : ∀ {xs ys : List PyData} {vs us : List V}, RDs K Z H xs vs → RDs K Z H ys us → RDs K Z H (xs ++ ys) (vs ++ us)
  | _, _, _, _, .nil, s => s
  | _, _, _, _, .cons h r, s => .cons h (RDs.app r s)
theorem RDs.set {x : PyData} {v : V} (h : RD K Z H x v) : ∀ {xs : List PyData} {vs : List V} (i : Nat), RDs K Z H xs vs → RDs K Z H (xs.set i x) (vs.set i v)
  | _, _, _, .nil => .nil
  | _, _, 0, .cons _ r => .cons h r
  | _, _, i + 1, .cons q r => .cons q (RDs.set h i r)
theorem RDs.erase : ∀ {xs : List PyData} {vs : List V} (i : Nat), RDs K Z H xs vs → RDs K Z H (xs.eraseIdx i) (vs.eraseIdx i)
  | _, _, _, .nil => .nil
  | _, _, 0, .cons _ r => r
  | _, _, i + 1, .cons q r => .cons q (RDs.erase i r)
theorem RDs.take : ∀ {xs : List PyData} {vs : List V} (i : Nat), RDs K Z H xs vs → RDs K Z H (xs.take i) (vs.take i)
  | _, _, 0, _ => by rw [List.take_zero, List.take_zero]; exact .nil
  | _, _, _ + 1, .nil => .nil
  | _, _, i + 1, .cons q r => .cons q (RDs.take i r)
theorem RDs.drop : ∀ {xs : List PyData} {vs : List V} (i : Nat), RDs K Z H xs vs → RDs K Z H (xs.drop i) (vs.drop i)
  | _, _, 0, r => r
  | _, _, _ + 1, .nil => .nil
  | _, _, i + 1, .cons _ r => RDs.drop i r
theorem RDs.rev {xs : List PyData} {vs : List V} (r : RDs K Z H xs vs) : RDs K Z H xs.reverse vs.reverse := by
  induction xs generalizing vs with
  | nil => cases r; exact .nil
  | cons x xs ih =>
    cases r with
    | cons h r =>
      rw [List.reverse_cons, List.reverse_cons]
      exact (ih r).app (.cons h .nil)
theorem RDs.rep {xs : List PyData} {vs : List V} (r : RDs K Z H xs vs) : ∀ k : Nat, RDs K Z H (List.replicate k xs).flatten (List.replicate k vs).flatten
  | 0 => .nil
  | k + 1 => by
    rw [List.replicate_succ, List.replicate_succ, List.flatten_cons, List.flatten_cons]
    exact r.app (RDs.rep r k)
end
/-- the items are frozen, the thing itself need not be -/
inductive RX (K : PySem.W.Frag) (Z : Addr → Prop) (H : Hp) : PyData → V → Prop
  | lst {a : Addr} {vs : List V} {xs : List PyData} : Rd H a (.lst vs) → RDs K Z H xs vs → RX K Z H (.list xs) (.ref a)
  | tup {a : Addr} {vs : List V} {xs : List PyData} : SqT K H a vs → RDs K Z H xs vs → RX K Z H (.tuple xs) (.ref a)
  | imm {x : PyData} {v : V} : RD K Z H x v → (∀ xs, x ≠ .list xs) → (∀ xs, x ≠ .tuple xs) → RX K Z H x v
theorem RD.x {K : PySem.W.Frag} {Z : Addr → Prop} {H : Hp} {x : PyData} {v : V} (h : RD K Z H x v) : RX K Z H x v := by
  cases h with
  | lst h r => exact .lst h.1 r
  | tup h r => exact .tup h.1 r
  | non => exact .imm .non (fun _ e => nomatch e) (fun _ e => nomatch e)
  | bl b => exact .imm (.bl b) (fun _ e => nomatch e) (fun _ e => nomatch e)
  | int b => exact .imm (.int b) (fun _ e => nomatch e) (fun _ e => nomatch e)
  | str b => exact .imm (.str b) (fun _ e => nomatch e) (fun _ e => nomatch e)
  | dct h e => exact .imm (.dct h e) (fun _ e => nomatch e) (fun _ e => nomatch e)

mutual
/-- an owned value at v, its owned addresses -/
inductive RW (K : PySem.W.Frag) (Z : Addr → Prop) (H : Hp) : W → V → List Addr → Prop
  | d {x : PyData} {v : V} : RD K Z H x v → RW K Z H (.d x) v []
  | fl {a : Addr} {vs : List V} {xs : List PyData} : H a = some (.lst vs) → RDs K Z H xs vs → RW K Z H (.fl xs) (.ref a) [a]
  | ow {a : Addr} {vs : List V} {ws : List W} {F : List Addr} : H a = some (.lst vs) → RWs K Z H ws vs F → RW K Z H (.ow ws) (.ref a) (a :: F)
  | ex {C : Nat} {x : PyData} {a : Addr} : RW K Z H (.ex C x) (.ref a) []
inductive RWs (K : PySem.W.Frag) (Z : Addr → Prop) (H : Hp) : List W → List V → List Addr → Prop
  | nil : RWs K Z H [] [] []
  | cons {w : W} {v : V} {F : List Addr} {ws : List W} {vs : List V} {F' : List Addr} : RW K Z H w v F → RWs K Z H ws vs F' → RWs K Z H (w :: ws) (v :: vs) (F ++ F')
end
section
variable {K : PySem.W.Frag} {Z Z' : Addr → Prop} {H H' : Hp}
mutual
theorem RW.keep (z : ∀ a, Z a → Z' a) (k : ∀ a o, Z a → H a = some o → H' a = some o) : ∀ {w : W} {v : V} {F : List Addr}, (∀ a ∈ F, ∀ o, H a = some o → H' a = some o) → RW K Z H w v F → RW K Z' H' w v F
  | _, _, _, _, .d h => .d (h.keep z k)
  | _, _, _, f, .fl e r => .fl (f _ (List.mem_singleton.mpr rfl) _ e) (r.keep z k)
  | _, _, _, f, .ow e r => .ow (f _ List.mem_cons_self _ e) (RWs.keep z k (fun a ha => f a (List.mem_cons_of_mem _ ha)) r)
  | _, _, _, _, .ex => .ex
theorem RWs.keep (z : ∀ a, Z a → Z' a) (k : ∀ a o, Z a → H a = some o → H' a = some o) : ∀ {ws : List W} {vs : List V} {F : List Addr}, (∀ a ∈ F, ∀ o, H a = some o → H' a = some o) → RWs K Z H ws vs F → RWs K Z' H' ws vs F
  | _, _, _, _, .nil => .nil
  | _, _, _, f, .cons h r => .cons (RW.keep z k (fun a ha => f a (List.mem_append_left _ ha)) h) (RWs.keep z k (fun a ha => f a (List.mem_append_right _ ha)) r)
end
mutual
theorem RW.laid : ∀ {w : W} {v : V} {F : List Addr}, RW K Z H w v F → ∀ a ∈ F, H a ≠ none
  | _, _, _, .d _, _, h => nomatch h
  | _, _, _, .fl e _, _, h => by rw [List.mem_singleton.mp h, e]; exact fun z => nomatch z
  | _, _, _, .ow e r, _, h => by
    rcases List.mem_cons.mp h with rfl | h
    · rw [e]; exact fun z => nomatch z
    · exact RWs.laid r _ h
  | _, _, _, .ex, _, h => nomatch h
theorem RWs.laid : ∀ {ws : List W} {vs : List V} {F : List Addr}, RWs K Z H ws vs F → ∀ a ∈ F, H a ≠ none
  | _, _, _, .nil, _, h => nomatch h
  | _, _, _, .cons q r, _, h => by
    rcases List.mem_append.mp h with h | h
    · exact RW.laid q _ h
    · exact RWs.laid r _ h
end
mutual
/-- frozen: its addresses are not changed any more -/
theorem RW.frz (z : ∀ a, Z a → Z' a) : ∀ {w : W} {v : V} {F : List Addr} {x : PyData}, RW K Z H w v F → (∀ a ∈ F, Z' a) → Ev.frz w = some x → RD K Z' H x v
  | _, _, _, _, .d h, _, e => by cases e; exact h.keep z fun _ _ _ q => q
  | _, _, _, _, .fl q r, f, e => by
    cases e
    exact .lst ⟨.inl q, f _ (List.mem_singleton.mpr rfl)⟩ (r.keep z fun _ _ _ q => q)
  | _, _, _, _, .ow (ws := ws) q r, f, e => by
    have e' : (Ev.frz.frzs ws).map PyData.list = some _ := e
    cases e1 : Ev.frz.frzs ws with
    | none => rw [e1] at e'; cases e'
    | some xs =>
      rw [e1] at e'
      cases e'
      exact .lst ⟨.inl q, f _ List.mem_cons_self⟩ (RWs.frz z r (fun a ha => f a (List.mem_cons_of_mem _ ha)) e1)
  | _, _, _, _, .ex, _, e => nomatch e
theorem RWs.frz (z : ∀ a, Z a → Z' a) : ∀ {ws : List W} {vs : List V} {F : List Addr} {xs : List PyData}, RWs K Z H ws vs F → (∀ a ∈ F, Z' a) → Ev.frz.frzs ws = some xs → RDs K Z' H xs vs
  | _, _, _, _, .nil, _, e => by cases e; exact .nil
  | _, _, _, _, .cons (w := w) (ws := ws) q r, f, e => by
    have e' : (Ev.frz w).bind (fun x => (Ev.frz.frzs ws).bind fun xs => some (x :: xs)) = some _ := e
    cases e1 : Ev.frz w with
    | none => rw [e1] at e'; cases e'
    | some x =>
      cases e2 : Ev.frz.frzs ws with
      | none => rw [e1, e2] at e'; cases e'
      | some xs =>
        rw [e1, e2] at e'
        cases e'
        exact .cons (RW.frz z q (fun a ha => f a (List.mem_append_left _ ha)) e1) (RWs.frz z r (fun a ha => f a (List.mem_append_right _ ha)) e2)
end
theorem RW.co {w : W} {v : V} {F : List Addr} {x : PyData} (h : RW K Z H w v F) (e : Ev.co w = some x) : RX K Z H x v := by
  cases h with
  | d h => cases e; exact h.x
  | fl q r => cases e; exact .lst (.inl q) r
  | ow q r => cases e
  | ex => cases e
end

/-! ### the slots -/
abbrev Tot (Fs : Nat → List Addr) : Addr → Prop := fun a => ∃ i, a ∈ Fs i
structure SOk (K : PySem.W.Frag) (Z : Addr → Prop) (H : Hp) (ρ : Sl) (σ : L2.St) (Fs : Nat → List Addr) : Prop where
  len : σ.length = ρ.length
  here : ∀ i w, gt ρ i = some w → ∃ v, σ[i]? = some (some v) ∧ RW K Z H w v (Fs i)
  gone : ∀ i, gt ρ i = none → Fs i = []
  dis : ∀ i j a, i ≠ j → a ∈ Fs i → a ∉ Fs j
  nd : ∀ i, (Fs i).Nodup
  nz : ∀ i a, a ∈ Fs i → ¬ Z a
  zd : ∀ a, Z a → H a ≠ none
/-- from (Z, F, H) to (Z', F', H') -/
structure Stp (Z F : Addr → Prop) (H : Hp) (Z' F' : Addr → Prop) (H' : Hp) : Prop where
  zz : ∀ a, Z a → Z' a
  keep : ∀ a o, H a = some o → ¬ F a → H' a = some o
  fsub : ∀ a, F' a → F a ∨ H a = none
  zsub : ∀ a, Z' a → Z a ∨ F a ∨ H a = none
  dom : ∀ a, H' a = none → H a = none
section
variable {Z F Z1 F1 Z2 F2 : Addr → Prop} {H H1 H2 : Hp}
theorem Stp.refl : Stp Z F H Z F H := ⟨fun _ h => h, fun _ _ h _ => h, fun _ h => .inl h, fun _ h => .inl h, fun _ h => h⟩
theorem Stp.trans (a : Stp Z F H Z1 F1 H1) (b : Stp Z1 F1 H1 Z2 F2 H2) : Stp Z F H Z2 F2 H2 where
  zz := fun c h => b.zz c (a.zz c h)
  keep := fun c o h n => b.keep c o (a.keep c o h n) fun f => by
    rcases a.fsub c f with z | z
    · exact n z
    · rw [h] at z; cases z
  fsub := fun c h => by
    rcases b.fsub c h with z | z
    · exact a.fsub c z
    · exact .inr (a.dom c z)
  zsub := fun c h => by
    rcases b.zsub c h with z | z | z
    · exact a.zsub c z
    · rcases a.fsub c z with z | z
      · exact .inr (.inl z)
      · exact .inr (.inr z)
    · exact .inr (.inr (a.dom c z))
  dom := fun c h => a.dom c (b.dom c h)
/-- only the owned part is told less or more -/
theorem Stp.wk {F' F1' : Addr → Prop} (a : Stp Z F H Z1 F1 H1) (h : ∀ c, F c → F' c) (h1 : ∀ c, F1' c → F1 c ∨ (F' c ∧ H c ≠ none) ∨ H c = none) : Stp Z F' H Z1 F1' H1 where
  zz := a.zz
  keep := fun c o e n => a.keep c o e fun f => n (h c f)
  fsub := fun c f => by
    rcases h1 c f with z | z | z
    · rcases a.fsub c z with z | z
      · exact .inl (h c z)
      · exact .inr z
    · exact .inl z.1
    · exact .inr z
  zsub := fun c z => by
    rcases a.zsub c z with z | z | z
    · exact .inl z
    · exact .inr (.inl (h c z))
    · exact .inr (.inr z)
  dom := a.dom
/-- a new thing, not owned or owned -/
theorem Stp.new {p : Addr} {o : HO} (hp : H p = none) : Stp Z F H (fun a => Z a ∨ a = p) F (upd H p o) where
  zz := fun _ h => .inl h
  keep := fun a o e _ => by rw [upd_ne (ne_of_none e hp)]; exact e
  fsub := fun _ h => .inl h
  zsub := fun a h => by
    rcases h with h | h
    · exact .inl h
    · exact .inr (.inr (h ▸ hp))
  dom := fun a h => by
    by_cases e : a = p
    · rw [e]; exact hp
    · rw [upd_ne e] at h; exact h
theorem Stp.newF {p : Addr} {o : HO} (hp : H p = none) : Stp Z F H Z (fun a => F a ∨ a = p) (upd H p o) where
  zz := fun _ h => h
  keep := fun a o e _ => by rw [upd_ne (ne_of_none e hp)]; exact e
  fsub := fun a h => by
    rcases h with h | h
    · exact .inl h
    · exact .inr (h ▸ hp)
  zsub := fun a h => .inl h
  dom := fun a h => by
    by_cases e : a = p
    · rw [e]; exact hp
    · rw [upd_ne e] at h; exact h
end
section
variable {K : PySem.W.Frag} {Z Z' F F' : Addr → Prop} {H H' : Hp} {ρ : Sl} {σ : L2.St} {Fs : Nat → List Addr}
theorem Stp.rd (a : Stp Z F H Z' F' H') (zf : ∀ a, Z a → ¬ F a) {x : PyData} {v : V} (h : RD K Z H x v) : RD K Z' H' x v := h.keep a.zz fun c o z e => a.keep c o e (zf c z)
theorem Stp.rds (a : Stp Z F H Z' F' H') (zf : ∀ a, Z a → ¬ F a) {x : List PyData} {v : List V} (h : RDs K Z H x v) : RDs K Z' H' x v := h.keep a.zz fun c o z e => a.keep c o e (zf c z)
theorem SOk.zf (s : SOk K Z H ρ σ Fs) : ∀ a, Z a → ¬ Tot Fs a := fun a z ⟨i, h⟩ => s.nz i a h z
theorem SOk.laid (s : SOk K Z H ρ σ Fs) {i : Nat} {a : Addr} (h : a ∈ Fs i) : H a ≠ none := by
  cases e : gt ρ i with
  | none => rw [s.gone i e] at h; cases h
  | some w =>
    obtain ⟨v, _, r⟩ := s.here i w e
    exact r.laid a h
/-- a new thing, frozen -/
theorem SOk.new (s : SOk K Z H ρ σ Fs) {p : Addr} {o : HO} (hp : H p = none) : SOk K (fun a => Z a ∨ a = p) (upd H p o) ρ σ Fs where
  len := s.len
  here := fun i w e => by
    obtain ⟨v, h1, h2⟩ := s.here i w e
    exact ⟨v, h1, h2.keep (fun _ z => .inl z) (fun a o _ q => by rw [upd_ne (ne_of_none q hp)]; exact q) fun a _ o q => by rw [upd_ne (ne_of_none q hp)]; exact q⟩
  gone := s.gone
  dis := s.dis
  nd := s.nd
  nz := fun i a h z => by
    rcases z with z | z
    · exact s.nz i a h z
    · rw [z] at h; exact s.laid h hp
  zd := fun a z => by
    by_cases e : a = p
    · rw [e, upd_same]; exact fun z => nomatch z
    · rw [upd_ne e]
      rcases z with z | z
      · exact s.zd a z
      · exact absurd z e
/-- a new thing that is nobody's yet -/
theorem SOk.newF (s : SOk K Z H ρ σ Fs) {p : Addr} {o : HO} (hp : H p = none) : SOk K Z (upd H p o) ρ σ Fs where
  len := s.len
  here := fun i w e => by
    obtain ⟨v, h1, h2⟩ := s.here i w e
    exact ⟨v, h1, h2.keep (fun _ z => z) (fun a o _ q => by rw [upd_ne (ne_of_none q hp)]; exact q) fun a _ o q => by rw [upd_ne (ne_of_none q hp)]; exact q⟩
  gone := s.gone
  dis := s.dis
  nd := s.nd
  nz := s.nz
  zd := fun a z => by
    by_cases e : a = p
    · rw [e, upd_same]; exact fun z => nomatch z
    · rw [upd_ne e]; exact s.zd a z
/-- addresses of nobody are frozen -/
theorem SOk.frzF (s : SOk K Z H ρ σ Fs) {R : List Addr} (hl : ∀ a ∈ R, H a ≠ none) (hf : ∀ a ∈ R, ¬ Tot Fs a) : SOk K (fun a => Z a ∨ a ∈ R) H ρ σ Fs where
  len := s.len
  here := fun i w e => by
    obtain ⟨v, h1, h2⟩ := s.here i w e
    exact ⟨v, h1, h2.keep (fun _ z => .inl z) (fun a o _ q => q) fun a _ o q => q⟩
  gone := s.gone
  dis := s.dis
  nd := s.nd
  nz := fun i a h z => by
    rcases z with z | z
    · exact s.nz i a h z
    · exact hf a z ⟨i, h⟩
  zd := fun a z => by
    rcases z with z | z
    · exact s.zd a z
    · exact hl a z
end
end Ev
set_option Elab.async false
set_option maxRecDepth 100000
set_option maxHeartbeats 4000000
/-! Ev2: readings over trees. -/
namespace Ev
open PySem PySem.Spec PyProof.Rows L2

/-- what is known of the program: the written part, the addresses of the own errors' classes -/
structure G0 where
  K : PySem.W.Frag
  CA : Nat → Addr
/-- an error of class C that holds x -/
def XR (g : G0) (Z : Addr → Prop) (H : Hp) (C : Nat) (x : PyData) (cls : Value) (dx : Option Addr) : Prop :=
  cls = .ref (g.CA C) ∧ ∃ a v, dx = some a ∧ H a = some (.xd [("value", v)]) ∧ Z a ∧ RD g.K Z H x v

section
variable (g : G0) (E : WX) (σ : L2.St)
def PR {α β : Type} (Rp : (Addr → Prop) → Hp → α → β → List Addr → Prop) (r : R α) (Z F : Addr → Prop) (H : Hp) (Q : β → Hp → Prop) : Prop :=
  match r with
  | .ok a ρ' => ∀ b Z' H' Fs' T, SOk g.K Z' H' ρ' σ Fs' → Rp Z' H' a b T → T.Nodup → (∀ c ∈ T, ¬ Z' c) → (∀ c ∈ T, ¬ Tot Fs' c) → Stp Z F H Z' (fun c => Tot Fs' c ∨ c ∈ T) H' → Q b H'
  | .ex C x ρ' => ∀ cls dx Z' H' Fs', SOk g.K Z' H' ρ' σ Fs' → XR g Z' H' C x cls dx → Stp Z F H Z' (Tot Fs') H' → E cls dx σ H'
  | .no => False
def PR0 {α β : Type} (Rp : (Addr → Prop) → Hp → α → β → Prop) (r : R α) (Z F : Addr → Prop) (H : Hp) (Q : β → Hp → Prop) : Prop :=
  match r with
  | .ok a ρ' => ∀ b Z' H' Fs', SOk g.K Z' H' ρ' σ Fs' → Rp Z' H' a b → Stp Z F H Z' (Tot Fs') H' → Q b H'
  | .ex C x ρ' => ∀ cls dx Z' H' Fs', SOk g.K Z' H' ρ' σ Fs' → XR g Z' H' C x cls dx → Stp Z F H Z' (Tot Fs') H' → E cls dx σ H'
  | .no => False
end
section
variable {g : G0} {E : WX} {σ : L2.St} {α β γ δ : Type} {Z F Z1 F1 : Addr → Prop} {H H1 : Hp}
theorem PR.step {Rp : (Addr → Prop) → Hp → α → β → List Addr → Prop} {r : R α} {Q : β → Hp → Prop} (h : PR g E σ Rp r Z F H Q) (st : Stp Z F H Z1 F1 H1) : PR g E σ Rp r Z1 F1 H1 Q := by
  cases r with
  | ok a ρ' => exact fun b Z' H' Fs' T s q1 q2 q3 q4 t => h b Z' H' Fs' T s q1 q2 q3 q4 (st.trans t)
  | ex C x ρ' => exact fun cls dx Z' H' Fs' s q t => h cls dx Z' H' Fs' s q (st.trans t)
  | no => exact h
theorem PR0.step {Rp : (Addr → Prop) → Hp → α → β → Prop} {r : R α} {Q : β → Hp → Prop} (h : PR0 g E σ Rp r Z F H Q) (st : Stp Z F H Z1 F1 H1) : PR0 g E σ Rp r Z1 F1 H1 Q := by
  cases r with
  | ok a ρ' => exact fun b Z' H' Fs' s q1 t => h b Z' H' Fs' s q1 (st.trans t)
  | ex C x ρ' => exact fun cls dx Z' H' Fs' s q t => h cls dx Z' H' Fs' s q (st.trans t)
  | no => exact h
theorem PR0.imp {Rp : (Addr → Prop) → Hp → α → β → Prop} {r : R α} {Q Q' : β → Hp → Prop} (h : PR0 g E σ Rp r Z F H Q) (q : ∀ b H, Q b H → Q' b H) : PR0 g E σ Rp r Z F H Q' := by
  cases r with
  | ok a ρ' => exact fun b Z' H' Fs' s q1 t => q _ _ (h b Z' H' Fs' s q1 t)
  | ex C x ρ' => exact h
  | no => exact h
/-- what is known behind a first part -/
def Mid (g : G0) (E : WX) (σ : L2.St) (Rp : (Addr → Prop) → Hp → α → β → Prop) (r : R α) (Z F : Addr → Prop) (H : Hp) (nx : α → Sl → (Addr → Prop) → (Nat → List Addr) → Hp → Prop) (b : β) (H1 : Hp) : Prop :=
  ∃ a ρ1 Z1 Fs1, SOk g.K Z1 H1 ρ1 σ Fs1 ∧ Rp Z1 H1 a b ∧ r = .ok a ρ1 ∧ Stp Z F H Z1 (Tot Fs1) H1 ∧ nx a ρ1 Z1 Fs1 H1
theorem PR.bd {Rp : (Addr → Prop) → Hp → α → β → Prop} {Rq : (Addr → Prop) → Hp → γ → δ → List Addr → Prop} {r : R α} {f : α → Sl → R γ} {Q : δ → Hp → Prop} (h : PR g E σ Rq (r.bd f) Z F H Q) :
    PR0 g E σ Rp r Z F H (Mid g E σ Rp r Z F H fun a ρ1 Z1 Fs1 H1 => PR g E σ Rq (f a ρ1) Z1 (Tot Fs1) H1 Q) := by
  cases r with
  | ok a ρ' => exact fun b Z' H' Fs' s q1 t => ⟨a, ρ', Z', Fs', s, q1, rfl, t, PR.step (r := f a ρ') h t⟩
  | ex C x ρ' => exact h
  | no => exact h
theorem PR0.bd {Rp : (Addr → Prop) → Hp → α → β → Prop} {Rq : (Addr → Prop) → Hp → γ → δ → Prop} {r : R α} {f : α → Sl → R γ} {Q : δ → Hp → Prop} (h : PR0 g E σ Rq (r.bd f) Z F H Q) :
    PR0 g E σ Rp r Z F H (Mid g E σ Rp r Z F H fun a ρ1 Z1 Fs1 H1 => PR0 g E σ Rq (f a ρ1) Z1 (Tot Fs1) H1 Q) := by
  cases r with
  | ok a ρ' => exact fun b Z' H' Fs' s q1 t => ⟨a, ρ', Z', Fs', s, q1, rfl, t, PR0.step (r := f a ρ') h t⟩
  | ex C x ρ' => exact h
  | no => exact h
end

/-! ### the kinds of readings -/
def rW (g : G0) : (Addr → Prop) → Hp → W → V → List Addr → Prop := fun Z H w v T => RW g.K Z H w v T
def rD (g : G0) : (Addr → Prop) → Hp → PyData → V → Prop := fun Z H x v => RD g.K Z H x v
def OIs (g : G0) (σ : L2.St) (Z : Addr → Prop) (H : Hp) : O → V → Prop
  | .v x, v => RD g.K Z H x v
  | .s i, v => σ[i]? = some (some v)
def rB : (Addr → Prop) → Hp → Bool → Bool → Prop := fun _ _ a b => a = b
inductive OsAre (g : G0) (σ : L2.St) (Z : Addr → Prop) (H : Hp) : List O → List V → Prop
  | nil : OsAre g σ Z H [] []
  | cons {o : O} {v : V} {os : List O} {vs : List V} : OIs g σ Z H o v → OsAre g σ Z H os vs → OsAre g σ Z H (o :: os) (v :: vs)

abbrev SE := Sl → R W
abbrev SD := Sl → R PyData
abbrev SO := Sl → R O
abbrev ST := Sl → R Bool
abbrev SA := Sl → R (List O)
def tE (g : G0) (E : WX) (s : SE) : TE := fun σ H Q => ∃ Z ρ Fs, SOk g.K Z H ρ σ Fs ∧ PR g E σ (rW g) (s ρ) Z (Tot Fs) H Q
def tD (g : G0) (E : WX) (s : SD) : TE := fun σ H Q => ∃ Z ρ Fs, SOk g.K Z H ρ σ Fs ∧ PR0 g E σ (rD g) (s ρ) Z (Tot Fs) H Q
def tO (g : G0) (E : WX) (s : SO) : TE := fun σ H Q => ∃ Z ρ Fs, SOk g.K Z H ρ σ Fs ∧ PR0 g E σ (OIs g σ) (s ρ) Z (Tot Fs) H Q
def tT (g : G0) (E : WX) (s : ST) : TT := fun σ H Q => ∃ Z ρ Fs, SOk g.K Z H ρ σ Fs ∧ PR0 g E σ rB (s ρ) Z (Tot Fs) H Q
def tA (g : G0) (E : WX) (s : SA) : TA := fun σ H Q => ∃ Z ρ Fs, SOk g.K Z H ρ σ Fs ∧ PR0 g E σ (OsAre g σ) (s ρ) Z (Tot Fs) H Q

theorem _root_.L2.PE.imp {X : Cx} {e : Expr} {t t' : TE} (h : PE X e t) (q : ∀ σ H Q, t' σ H Q → t σ H Q) : PE X e t' := ⟨fun pins s σ H Q I r => h.run pins s σ H Q I (q σ H Q r)⟩
theorem _root_.L2.PT.imp {X : Cx} {e : Expr} {t t' : TT} (h : PT X e t) (q : ∀ σ H Q, t' σ H Q → t σ H Q) : PT X e t' := ⟨fun pins s σ H Q I r => h.run pins s σ H Q I (q σ H Q r)⟩
theorem _root_.L2.PW.imp {X : Cx} {e : Expr} {t t' : TT} (h : PW X e t) (q : ∀ σ H Q, t' σ H Q → t σ H Q) : PW X e t' := ⟨fun w pins s σ H Q I r => h.run w pins s σ H Q I (q σ H Q r)⟩
theorem _root_.L2.PA.imp {X : Cx} {e : List Expr} {t t' : TA} (h : PA X e t) (q : ∀ σ H Q, t' σ H Q → t σ H Q) : PA X e t' := ⟨fun p pins s σ H Q I r => h.run p pins s σ H Q I (q σ H Q r)⟩
theorem _root_.L2.PS.imp {X : Cx} {e : Stmt} {t t' : TS} (h : PS X e t) (q : ∀ D σ H, t' D σ H → t D σ H) : PS X e t' := ⟨fun pins s σ H D I r => h.run pins s σ H D I (q D σ H r)⟩
theorem _root_.L2.PSs.imp {X : Cx} {e : List Stmt} {t t' : TS} (h : PSs X e t) (q : ∀ D σ H, t' D σ H → t D σ H) : PSs X e t' := ⟨fun pins s σ H D I r => h.run pins s σ H D I (q D σ H r)⟩

/-! ### frozen results -/
def fz : R W → R PyData
  | .ok w ρ => match frz w with
    | some x => .ok x ρ
    | none => .no
  | .ex C x ρ => .ex C x ρ
  | .no => .no
@[simp] theorem fz_d (x : PyData) (ρ : Sl) : fz (.ok (.d x) ρ) = .ok x ρ := rfl
@[simp] theorem fz_fl (x : List PyData) (ρ : Sl) : fz (.ok (.fl x) ρ) = .ok (.list x) ρ := rfl
@[simp] theorem fz_ex (C : Nat) (x : PyData) (ρ : Sl) : fz (.ex C x ρ) = .ex C x ρ := rfl
@[simp] theorem fz_no : fz .no = .no := rfl
def up : R PyData → R W
  | .ok x ρ => .ok (.d x) ρ
  | .ex C x ρ => .ex C x ρ
  | .no => .no
@[simp] theorem up_ok (x : PyData) (ρ : Sl) : up (.ok x ρ) = .ok (.d x) ρ := rfl
@[simp] theorem up_ex (C : Nat) (x : PyData) (ρ : Sl) : up (.ex C x ρ) = .ex C x ρ := rfl
@[simp] theorem up_no : up .no = .no := rfl
def oo : R PyData → R O
  | .ok x ρ => .ok (.v x) ρ
  | .ex C x ρ => .ex C x ρ
  | .no => .no
@[simp] theorem oo_ok (x : PyData) (ρ : Sl) : oo (.ok x ρ) = .ok (.v x) ρ := rfl
@[simp] theorem oo_ex (C : Nat) (x : PyData) (ρ : Sl) : oo (.ex C x ρ) = .ex C x ρ := rfl
@[simp] theorem oo_no : oo .no = .no := rfl
section
variable {g : G0} {E : WX} {σ : L2.St} {Z F : Addr → Prop} {H : Hp}
/-- owned addresses are let go: frozen -/
theorem Stp.frz {Z Z1 F G : Addr → Prop} {H H1 : Hp} {T : List Addr} (s : Stp Z F H Z1 (fun c => G c ∨ c ∈ T) H1) : Stp Z F H (fun c => Z1 c ∨ c ∈ T) G H1 where
  zz := fun a z => .inl (s.zz a z)
  keep := s.keep
  fsub := fun a z => s.fsub a (.inl z)
  zsub := fun a z => by
    rcases z with z | z
    · exact s.zsub a z
    · exact .inr (s.fsub a (.inr z))
  dom := s.dom
theorem PR0.of_fz {r : R W} {Q : VK} (h : PR0 g E σ (rD g) (fz r) Z F H Q) : PR g E σ (rW g) r Z F H Q := by
  cases r with
  | ok w ρ' =>
    have h' : PR0 g E σ (rD g) (match frz w with | some x => .ok x ρ' | none => .no) Z F H Q := h
    cases e : frz w with
    | none => rw [e] at h'; exact h'.elim
    | some x =>
      rw [e] at h'
      intro v Z' H' Fs' T s q1 q2 q3 q4 t
      exact h' v (fun a => Z' a ∨ a ∈ T) H' Fs' (s.frzF (fun a ha => RW.laid q1 a ha) q4) (RW.frz (fun _ z => .inl z) q1 (fun _ z => .inr z) e) t.frz
  | ex C x ρ' => exact h
  | no => exact h
theorem PR.of_up {r : R PyData} {Q : VK} (h : PR g E σ (rW g) (up r) Z F H Q) : PR0 g E σ (rD g) r Z F H Q := by
  cases r with
  | ok x ρ' => exact fun v Z' H' Fs' s q t => h v Z' H' Fs' [] s (.d q) .nil (fun _ z => nomatch z) (fun _ z => nomatch z) (t.wk (fun _ z => z) fun c z => by
      rcases z with z | z
      · exact .inl z
      · cases z)
  | ex C x ρ' => exact h
  | no => exact h
theorem PR0.of_oo {r : R PyData} {Q : VK} (h : PR0 g E σ (OIs g σ) (oo r) Z F H Q) : PR0 g E σ (rD g) r Z F H Q := by
  cases r with
  | ok x ρ' => exact fun v Z' H' Fs' s q t => h v Z' H' Fs' s q t
  | ex C x ρ' => exact h
  | no => exact h
end
/-- what an operand is -/
def lk (ρ : Sl) : O → Option PyData
  | .v x => some x
  | .s i => (gt ρ i).bind co
@[simp] theorem lk_v (ρ : Sl) (x : PyData) : lk ρ (.v x) = some x := rfl
@[simp] theorem lk_s (ρ : Sl) (i : Nat) : lk ρ (.s i) = (gt ρ i).bind co := rfl
section
variable {g : G0} {σ : L2.St} {Z Z' F F' : Addr → Prop} {H H' : Hp} {ρ : Sl} {Fs Fs' : Nat → List Addr} {o : O} {v : V} {x : PyData}
theorem OIs.rx (h : OIs g σ Z H o v) (s : SOk g.K Z H ρ σ Fs) (e : lk ρ o = some x) : RX g.K Z H x v := by
  cases o with
  | v y =>
    have e' := Option.some.inj e
    subst e'
    exact RD.x h
  | s i =>
    have e' : (gt ρ i).bind co = some x := e
    cases q : gt ρ i with
    | none => rw [q] at e'; cases e'
    | some w =>
      rw [q] at e'
      obtain ⟨u, h1, h2⟩ := s.here i w q
      have h0 : σ[i]? = some (some v) := h
      rw [h1] at h0
      cases h0
      exact h2.co e'
theorem OIs.stp (h : OIs g σ Z H o v) (s : SOk g.K Z H ρ σ Fs) (t : Stp Z (Tot Fs) H Z' F' H') : OIs g σ Z' H' o v := by
  cases o with
  | v y => exact t.rd s.zf h
  | s i => exact h
theorem OsAre.stp : ∀ {os : List O} {vs : List V}, OsAre g σ Z H os vs → SOk g.K Z H ρ σ Fs → Stp Z (Tot Fs) H Z' F' H' → OsAre g σ Z' H' os vs
  | _, _, .nil, _, _ => .nil
  | _, _, .cons h r, s, t => .cons (OIs.stp h s t) (OsAre.stp r s t)
end
/-! ### finishing: a result without a new thing; a new frozen thing; a new owned thing -/
section
variable {g : G0} {E : WX} {σ : L2.St} {Z : Addr → Prop} {H : Hp} {ρ : Sl} {Fs : Nat → List Addr} {Q : VK}
theorem PR.fin {w : W} {v : V} (h : PR g E σ (rW g) (.ok w ρ) Z (Tot Fs) H Q) (s : SOk g.K Z H ρ σ Fs) (r : RW g.K Z H w v []) : Q v H :=
  h v Z H Fs [] s r .nil (fun _ z => nomatch z) (fun _ z => nomatch z) (Stp.refl.wk (fun _ z => z) fun c z => by
    rcases z with z | z
    · exact .inl z
    · cases z)
theorem PR0.fin {α β : Type} {Rp : (Addr → Prop) → Hp → α → β → Prop} {a : α} {b : β} {Q : β → Hp → Prop} (h : PR0 g E σ Rp (.ok a ρ) Z (Tot Fs) H Q) (s : SOk g.K Z H ρ σ Fs) (r : Rp Z H a b) : Q b H := h b Z H Fs s r .refl
theorem PR0.new {p : Addr} {x : PyData} {o : HO} (h : PR0 g E σ (rD g) (.ok x ρ) Z (Tot Fs) H Q) (s : SOk g.K Z H ρ σ Fs) (hp : H p = none) (r : RD g.K (fun a => Z a ∨ a = p) (upd H p o) x (.ref p)) : Q (.ref p) (upd H p o) :=
  h (.ref p) _ _ Fs (s.new hp) r (Stp.new hp)
theorem PR.newL {p : Addr} {xs : List PyData} {vs : List V} (h : PR g E σ (rW g) (.ok (.fl xs) ρ) Z (Tot Fs) H Q) (s : SOk g.K Z H ρ σ Fs) (hp : H p = none) (r : RDs g.K Z H xs vs) : Q (.ref p) (upd H p (.lst vs)) :=
  h (.ref p) Z (upd H p (.lst vs)) Fs [p] (s.newF hp) (.fl upd_same (r.keep (fun _ z => z) fun a o _ q => by rw [upd_ne (ne_of_none q hp)]; exact q)) (by simp)
    (fun c hc z => s.zd c z (by rw [List.mem_singleton.mp hc]; exact hp)) (fun c hc ⟨i, z⟩ => s.laid z (by rw [List.mem_singleton.mp hc]; exact hp))
    ((Stp.newF hp).wk (fun _ z => z) fun c z => by
      rcases z with z | z
      · exact .inl (.inl z)
      · exact .inl (.inr (List.mem_singleton.mp z)))
end
/-! ### what a def's code runs in -/
/-- a def by its promise, where nothing that shows lists is at work -/
structure FnG (P : Program) (w : World) (K : PySem.W.Frag) (mg : Str → Option Value) (base : Heap) (k : Nat) (f : Addr) (fd : FuncData) (ps : List Str) (sp : Sp) : Prop where
  len : ∀ vs H Q E, sp vs H Q E → vs.length = ps.length
  run : ∀ (A : Around) (outer : List Env) (s : Shared) (H : Hp) (args : Args) (us : List Value) (vs : List V) (Q : VK) (E : XK), A.guards = some [] → Room k A → Env0 P w K mg base A outer s H →
    BindsTo s fd args (ps.zip us) → Vals vs us → sp vs H Q E → codeAny (model P w) A (.call (.ref f) args) (CR (CX P w) outer P w H s Q E) s
/-! ### the program's own errors -/
/-- what is written of an own error's class C below the class D that has the __init__ -/
structure ErrC (K : PySem.W.Frag) (D C : Addr) : Prop where
  oex : OexC K C
  mro : PySem.W.mroIn K C (.ref D) = some true
  sup : PySem.W.ks_superIn K C D "__init__" = some (some (.builtin "ValueError.__init__"))
  val : PySem.W.subIn K (.ref C) (.type "ValueError") = some true
  fld : PySem.W.findIn K (.ref C) "value" = some none
/-- what the __init__ keeps: it lays the own dict with the value -/
def spErr (K : PySem.W.Frag) (D : Addr) : Sp := fun vs H Q _ => ∃ a C v, vs = [.ref a, v] ∧ ErrC K D C ∧ H a = some (exo a C none) ∧
  ∀ dx, H dx = none → dx ≠ a → Q .non (upd (upd H dx (exd dx [("value", v)])) a (exo a C (some dx)))
structure ErrI (P : Program) (w : World) (K : PySem.W.Frag) (mg : Str → Option Value) (base : Heap) (x : Str) (C : Addr) : Prop where
  made : ∃ D fI fd ps, ErrC K D C ∧ PySem.W.findIn K (.ref C) "__init__" = some (some (.ref fI)) ∧ PySem.W.typeIn K (.ref fI) = some (.type "function") ∧ L2.Binds K fd ps [] ∧ FnOk P w K mg base (CX P w) 0 fI fd ps (spErr K D)
  nm : mg x = some (.ref C)
/-- a call with keywords, with defaults: np given by place, ks by name; the parameters are those of the places pi among them and the defaults ds -/
structure KwE where
  np : Nat
  ks : List Str
  pi : List Nat
  ds : List PyData
def immV : PyData → Option V
  | .none => some .non
  | .bool b => some (.bl b)
  | .int i => some (.int i)
  | .str z => some (.str z)
  | _ => none
def immVs : List PyData → Option (List V)
  | [] => some []
  | x :: xs => (immV x).bind fun v => (immVs xs).bind fun vs => some (v :: vs)
def pick {α : Type} (pi : List Nat) (xs : List α) : List α := pi.filterMap (xs[·]?)
def KBd (K : PySem.W.Frag) (fd : FuncData) (ps : List Str) (k : KwE) : Prop := ∃ dvs dus, immVs k.ds = some dvs ∧ Vals dvs dus ∧
  ∀ (s : Shared) (us ws : List Value), K.In s.heap → us.length = k.np → ws.length = k.ks.length → BindsTo s fd ⟨us, k.ks.zip ws⟩ (ps.zip (pick k.pi (us ++ ws ++ dus)))
/-- a def by name: its address and data, its parameters, its promise -/
structure DefI where
  name : Str
  ps : List Str
  f : Addr
  fd : FuncData
  sp : Sp
  lv : Nat
  kb : List KwE := []
/-- the program: what is known of it, the level of its calls, its defs, its constants -/
structure Pm where
  g : G0
  lv : Nat
  D : Nat → Option DefI
  C : Nat → Option (Str × PyData)
  XN : Nat → Option Str
  sub : Nat → Nat → Bool
/-- where code stands: the slots' names, the scope, the names whose cells are the block's own -/
structure Ct where
  N : List Str
  sc : Scope
  fn : Str → Bool
structure XOk (pm : Pm) (ct : Ct) (X : Cx) : Prop where
  hK : X.K = pm.g.K
  hN : X.N = ct.N
  nd : ct.N.Nodup
  sc : X.env.scope = ct.sc
  fn : X.fn = ct.fn
  calm : X.calm = true
  room : Room pm.lv X.A
  gd : X.A.guards = some []
  free : ∀ x ∈ (["abs", "all", "any", "bool", "enumerate", "int", "isinstance", "len", "list", "max", "min", "ord", "range", "repr", "sorted", "str", "sum", "tuple", "zip"] : List Str), X.mg x = none
  con : ∀ i x c, pm.C i = some (x, c) → ∃ u v, X.mg x = some u ∧ RelV v u ∧ ∀ Z H, RD pm.g.K Z H c v
  defs : ∀ i d, pm.D i = some d → d.lv ≤ pm.lv → X.mg d.name = some (.ref d.f) ∧ PySem.W.keepIn X.K (.ref d.f) = true ∧ L2.Binds X.K d.fd d.ps [] ∧ FnG X.prog X.w X.K X.mg X.base d.lv d.f d.fd d.ps d.sp ∧ ∀ k ∈ d.kb, KBd X.K d.fd d.ps k
  exc : ∀ C x, pm.XN C = some x → ErrI X.prog X.w X.K X.mg X.base x (pm.g.CA C)
  exm : ∀ C x C' x', pm.XN C = some x → pm.XN C' = some x' → PySem.W.exmOne X.K (.ref (pm.g.CA C)) (.ref (pm.g.CA C')) = some (pm.sub C C')
section
variable (pm : Pm) (ct : Ct)
structure KE (e : Expr) (s : SE) : Prop where
  go : ∀ X E, XOk pm ct X → Takes X E → PE X e (tE pm.g E s)
structure KD (e : Expr) (s : SD) : Prop where
  go : ∀ X E, XOk pm ct X → Takes X E → PE X e (tD pm.g E s)
structure KO (e : Expr) (s : SO) : Prop where
  go : ∀ X E, XOk pm ct X → Takes X E → PE X e (tO pm.g E s)
structure KT (e : Expr) (s : ST) : Prop where
  go : ∀ X E, XOk pm ct X → Takes X E → PT X e (tT pm.g E s)
structure KW (e : Expr) (s : ST) : Prop where
  go : ∀ X E, XOk pm ct X → Takes X E → PW X e (tT pm.g E s)
structure KA (es : List Expr) (s : SA) : Prop where
  go : ∀ X E, XOk pm ct X → Takes X E → PA X es (tA pm.g E s)
end
section
variable {pm : Pm} {ct : Ct} {e : Expr}
theorem KE.fz {s : SE} (h : KE pm ct e s) : KD pm ct e (fun ρ => Ev.fz (s ρ)) :=
  ⟨fun X E x t => (h.go X E x t).imp fun σ H Q ⟨Z, ρ, Fs, ok, r⟩ => ⟨Z, ρ, Fs, ok, r.of_fz⟩⟩
theorem KD.up {s : SD} (h : KD pm ct e s) : KE pm ct e (fun ρ => Ev.up (s ρ)) :=
  ⟨fun X E x t => (h.go X E x t).imp fun σ H Q ⟨Z, ρ, Fs, ok, r⟩ => ⟨Z, ρ, Fs, ok, r.of_up⟩⟩
theorem KD.oo {s : SD} (h : KD pm ct e s) : KO pm ct e (fun ρ => Ev.oo (s ρ)) :=
  ⟨fun X E x t => (h.go X E x t).imp fun σ H Q ⟨Z, ρ, Fs, ok, r⟩ => ⟨Z, ρ, Fs, ok, r.of_oo⟩⟩
end
end Ev
set_option Elab.async false
set_option maxRecDepth 100000
set_option maxHeartbeats 4000000
/-! Ev3: expressions without calls of the program's own. -/
namespace Ev
open PySem PySem.Spec PyProof.Rows L2

def ret (o : Option W) (ρ : Sl) : R W := match o with
  | some w => .ok w ρ
  | none => .no
@[simp] theorem ret_some (w : W) (ρ : Sl) : ret (some w) ρ = .ok w ρ := rfl
@[simp] theorem ret_none (ρ : Sl) : ret none ρ = .no := rfl
def lks (ρ : Sl) : List O → Option (List PyData)
  | [] => some []
  | o :: os => (lk ρ o).bind fun x => (lks ρ os).bind fun xs => some (x :: xs)
@[simp] theorem lks_nil (ρ : Sl) : lks ρ [] = some [] := rfl
@[simp] theorem lks_cons (ρ : Sl) (o : O) (os : List O) : lks ρ (o :: os) = (lk ρ o).bind fun x => (lks ρ os).bind fun xs => some (x :: xs) := rfl
def op1 (f : PyData → Option W) (a : SO) : SE := fun ρ => (a ρ).bd fun o ρ1 => ret ((lk ρ1 o).bind f) ρ1
def op2 (f : PyData → PyData → Option W) (a b : SO) : SE := fun ρ => (a ρ).bd fun o ρ1 => (b ρ1).bd fun o2 ρ2 => ret ((lk ρ2 o).bind fun x => (lk ρ2 o2).bind fun y => f x y) ρ2
def opn (f : List PyData → Option W) (as : SA) : SE := fun ρ => (as ρ).bd fun os ρ1 => ret ((lks ρ1 os).bind f) ρ1
inductive RXs (K : PySem.W.Frag) (Z : Addr → Prop) (H : Hp) : List PyData → List V → Prop
  | nil : RXs K Z H [] []
  | cons {x : PyData} {v : V} {xs : List PyData} {vs : List V} : RX K Z H x v → RXs K Z H xs vs → RXs K Z H (x :: xs) (v :: vs)
/-- what a rule's wish asks, from trees -/
def Ful1 (g : G0) (r : V → Hp → VK → Prop) (f : PyData → Option W) : Prop := ∀ (E : WX) (σ : L2.St) (Z : Addr → Prop) (H : Hp) (ρ : Sl) (Fs : Nat → List Addr) (Q : VK) (x : PyData) (v : V) (w : W),
  SOk g.K Z H ρ σ Fs → RX g.K Z H x v → f x = some w → PR g E σ (rW g) (.ok w ρ) Z (Tot Fs) H Q → r v H Q
def Ful2 (g : G0) (r : R2) (f : PyData → PyData → Option W) : Prop := ∀ (E : WX) (σ : L2.St) (Z : Addr → Prop) (H : Hp) (ρ : Sl) (Fs : Nat → List Addr) (Q : VK) (x y : PyData) (v u : V) (w : W),
  SOk g.K Z H ρ σ Fs → RX g.K Z H x v → RX g.K Z H y u → f x y = some w → PR g E σ (rW g) (.ok w ρ) Z (Tot Fs) H Q → r v u H Q
def Fuln (g : G0) (r : List V → Hp → VK → Prop) (f : List PyData → Option W) : Prop := ∀ (E : WX) (σ : L2.St) (Z : Addr → Prop) (H : Hp) (ρ : Sl) (Fs : Nat → List Addr) (Q : VK) (xs : List PyData) (vs : List V) (w : W),
  SOk g.K Z H ρ σ Fs → RXs g.K Z H xs vs → f xs = some w → PR g E σ (rW g) (.ok w ρ) Z (Tot Fs) H Q → r vs H Q
section
variable {g : G0} {E : WX} {σ : L2.St} {H : Hp} {Q : VK}
theorem op1_read {r : V → Hp → VK → Prop} {f : PyData → Option W} {a : SO} (u : Ful1 g r f) (h : tE g E (op1 f a) σ H Q) : tO g E a σ H fun v H1 => r v H1 Q := by
  obtain ⟨Z, ρ, Fs, ok, h⟩ := h
  refine ⟨Z, ρ, Fs, ok, (PR.bd h).imp ?_⟩
  rintro v H1 ⟨o, ρ1, Z1, Fs1, s1, ho, -, st, h1⟩
  cases e : lk ρ1 o with
  | none => simp only [e, Option.bind_none, ret_none] at h1; exact h1.elim
  | some x =>
    simp only [e, Option.bind_some] at h1
    cases e2 : f x with
    | none => rw [e2] at h1; exact h1.elim
    | some w =>
      rw [e2] at h1
      exact u E σ Z1 H1 ρ1 Fs1 Q x v w s1 (OIs.rx ho s1 e) e2 h1
theorem op2_read {r : R2} {f : PyData → PyData → Option W} {a b : SO} (u : Ful2 g r f) (h : tE g E (op2 f a b) σ H Q) : tOp r (tO g E a) (tO g E b) σ H Q := by
  obtain ⟨Z, ρ, Fs, ok, h⟩ := h
  refine ⟨Z, ρ, Fs, ok, (PR.bd h).imp ?_⟩
  rintro v H1 ⟨o, ρ1, Z1, Fs1, s1, ho, -, st, h1⟩
  refine ⟨Z1, ρ1, Fs1, s1, (PR.bd h1).imp ?_⟩
  rintro v2 H2 ⟨o2, ρ2, Z2, Fs2, s2, ho2, -, st2, h2⟩
  have hx := OIs.stp ho s1 st2
  cases e : lk ρ2 o with
  | none => simp only [e, Option.bind_none, ret_none] at h2; exact h2.elim
  | some x =>
    cases e' : lk ρ2 o2 with
    | none => simp only [e, e', Option.bind_some, Option.bind_none, ret_none] at h2; exact h2.elim
    | some y =>
      simp only [e, e', Option.bind_some] at h2
      cases e2 : f x y with
      | none => rw [e2] at h2; exact h2.elim
      | some w =>
        rw [e2] at h2
        exact u E σ Z2 H2 ρ2 Fs2 Q x y v v2 w s2 (OIs.rx hx s2 e) (OIs.rx ho2 s2 e') e2 h2
theorem OsAre.rxs {Z : Addr → Prop} {ρ : Sl} {Fs : Nat → List Addr} (s : SOk g.K Z H ρ σ Fs) : ∀ {os : List O} {vs : List V} {xs : List PyData}, OsAre g σ Z H os vs → lks ρ os = some xs → RXs g.K Z H xs vs
  | _, _, _, .nil, e => by cases e; exact .nil
  | _, _, _, .cons (o := o) (os := os) h r, e => by
    simp only [lks_cons] at e
    cases e1 : lk ρ o with
    | none => rw [e1] at e; cases e
    | some x =>
      cases e2 : lks ρ os with
      | none => rw [e1, e2] at e; cases e
      | some xs =>
        rw [e1, e2] at e
        cases e
        exact .cons (OIs.rx h s e1) (OsAre.rxs s r e2)
theorem opn_read {r : List V → Hp → VK → Prop} {f : List PyData → Option W} {as : SA} (u : Fuln g r f) (h : tE g E (opn f as) σ H Q) : tA g E as σ H fun vs H1 => r vs H1 Q := by
  obtain ⟨Z, ρ, Fs, ok, h⟩ := h
  refine ⟨Z, ρ, Fs, ok, (PR.bd h).imp ?_⟩
  rintro vs H1 ⟨os, ρ1, Z1, Fs1, s1, ho, -, st, h1⟩
  cases e : lks ρ1 os with
  | none => simp only [e, Option.bind_none, ret_none] at h1; exact h1.elim
  | some xs =>
    simp only [e, Option.bind_some] at h1
    cases e2 : f xs with
    | none => rw [e2] at h1; exact h1.elim
    | some w =>
      rw [e2] at h1
      exact u E σ Z1 H1 ρ1 Fs1 Q xs vs w s1 (ho.rxs s1 e) e2 h1
end

/-! ### constants, names -/
def eC (x : PyData) : SD := fun ρ => .ok x ρ
def oV (i : Nat) : SO := fun ρ => match gt ρ i with
  | some _ => .ok (.s i) ρ
  | none => .no
def eV (i : Nat) : SD := fun ρ => match (gt ρ i).bind frz with
  | some x => .ok x (pt ρ i (some (.d x)))
  | none => .no
def eM (i : Nat) : SE := fun ρ => match gt ρ i with
  | some w => .ok w (pt ρ i none)
  | none => .no
/-- a caught error, read -/
def eX (i : Nat) : SE := fun ρ => match gt ρ i with
  | some (.ex C x) => .ok (.ex C x) ρ
  | _ => .no
theorem RW.exAt {K : PySem.W.Frag} {Z : Addr → Prop} {H : Hp} {C : Nat} {x : PyData} {v : V} {F : List Addr} (h : RW K Z H (.ex C x) v F) : RW K Z H (.ex C x) v [] := by
  cases h
  exact .ex
section
variable {pm : Pm} {ct : Ct}
theorem kd_int {i : Int} {j pos} : KD pm ct (.Constant (.int i) j pos) (eC (.int i)) :=
  ⟨fun X E x t => pe_int.imp fun σ H Q ⟨Z, ρ, Fs, ok, h⟩ => PR0.fin h ok (.int i)⟩
theorem kd_bl {b : Bool} {j pos} : KD pm ct (.Constant (.bool b) j pos) (eC (.bool b)) :=
  ⟨fun X E x t => pe_bl.imp fun σ H Q ⟨Z, ρ, Fs, ok, h⟩ => PR0.fin h ok (.bl b)⟩
theorem kd_non {j pos} : KD pm ct (.Constant .none j pos) (eC .none) :=
  ⟨fun X E x t => pe_non.imp fun σ H Q ⟨Z, ρ, Fs, ok, h⟩ => PR0.fin h ok .non⟩
theorem kd_str {z : Str} {j pos} : KD pm ct (.Constant (.str z) j pos) (eC (.str z)) :=
  ⟨fun X E x t => pe_str.imp fun σ H Q ⟨Z, ρ, Fs, ok, h⟩ => PR0.fin h ok (.str z)⟩
/-- a name can be read (its kind in the scope) -/
def visB (sc : Scope) (x : Str) : Bool := (match sc.names.lookup x with
  | some .local => true
  | some .cell => true
  | some .free => true
  | _ => false) && !(x == ("__debug__" : Str)) && !(x == ("__classdict__" : Str))
def glB (sc : Scope) (x : Str) : Bool := decide (sc.names.lookup x = some .globalImplicit) && !(x == ("__debug__" : Str))
theorem visB_ok {x : Str} (h : visB ct.sc x = true) : Vis ct.sc x ∧ (x == ("__debug__" : Str)) = false ∧ (x == ("__classdict__" : Str)) = false := by
  unfold visB at h
  simp only [Bool.and_eq_true, Bool.not_eq_true'] at h
  obtain ⟨⟨h1, h2⟩, h3⟩ := h
  refine ⟨?_, h2, h3⟩
  unfold Vis
  split at h1 <;> first | exact .inl ‹_› | exact .inr (.inl ‹_›) | exact .inr (.inr ‹_›) | cases h1
theorem glB_ok {x : Str} {X : Cx} (h : glB ct.sc x = true) (e : X.env.scope = ct.sc) : Gl X x ∧ (x == ("__debug__" : Str)) = false := by
  unfold glB at h
  simp only [Bool.and_eq_true, Bool.not_eq_true', decide_eq_true_eq] at h
  refine ⟨?_, h.2⟩
  show X.env.scope.names.lookup x = some .globalImplicit
  rw [e]
  exact h.1
theorem pe_nm {i : Nat} {x : Str} {pos : Pos} {X : Cx} (xo : XOk pm ct X) (hn : ct.N[i]? = some x) (hv : visB ct.sc x = true) : PE X (.Name x pos) (tVar i) := by
  obtain ⟨h1, h2, h3⟩ := visB_ok hv
  exact pe_var (by rw [xo.hN]; exact hn) (by rw [xo.sc]; exact h1) h2 h3
theorem ko_var {i : Nat} {x : Str} {pos : Pos} (hn : ct.N[i]? = some x) (hv : visB ct.sc x = true) : KO pm ct (.Name x pos) (oV i) := by
  refine ⟨fun X E xo t => (pe_nm xo hn hv).imp fun σ H Q ⟨Z, ρ, Fs, ok, h⟩ => ?_⟩
  unfold oV at h
  cases e : gt ρ i with
  | none => rw [e] at h; exact h.elim
  | some w =>
    rw [e] at h
    obtain ⟨v, h1, h2⟩ := ok.here i w e
    exact ⟨v, h1, PR0.fin h ok h1⟩
/-- one slot's owned part is let go -/
def un1 (Fs : Nat → List Addr) (i : Nat) : Nat → List Addr := fun j => if j = i then [] else Fs j
theorem un1_same {Fs : Nat → List Addr} {i : Nat} : un1 Fs i i = [] := if_pos rfl
theorem un1_ne {Fs : Nat → List Addr} {i j : Nat} (h : j ≠ i) : un1 Fs i j = Fs j := if_neg h
theorem un1_sub {Fs : Nat → List Addr} {i j : Nat} {a : Addr} (h : a ∈ un1 Fs i j) : a ∈ Fs j := by
  unfold un1 at h
  split at h
  · cases h
  · exact h
section
variable {K : PySem.W.Frag} {Z : Addr → Prop} {H : Hp} {ρ : Sl} {σ : L2.St} {Fs : Nat → List Addr} {i : Nat} {w : W}
theorem SOk.frzAt (s : SOk K Z H ρ σ Fs) {x : PyData} (e : gt ρ i = some w) (f : frz w = some x) : SOk K (fun a => Z a ∨ a ∈ Fs i) H (pt ρ i (some (.d x))) σ (un1 Fs i) where
  len := by rw [pt_len]; exact s.len
  here := fun j u q => by
    by_cases hj : j = i
    · subst hj
      rw [gt_pt_same (gt_lt e)] at q
      cases q
      obtain ⟨v, h1, h2⟩ := s.here j w e
      refine ⟨v, h1, ?_⟩
      rw [un1_same]
      exact .d (h2.frz (fun _ z => .inl z) (fun _ z => .inr z) f)
    · rw [gt_pt_ne hj] at q
      obtain ⟨v, h1, h2⟩ := s.here j u q
      rw [un1_ne hj]
      exact ⟨v, h1, h2.keep (fun _ z => .inl z) (fun _ _ _ z => z) fun _ _ _ z => z⟩
  gone := fun j q => by
    by_cases hj : j = i
    · rw [hj, un1_same]
    · rw [gt_pt_ne hj] at q
      rw [un1_ne hj]
      exact s.gone j q
  dis := fun j k a n h h' => s.dis j k a n (un1_sub h) (un1_sub h')
  nd := fun j => by
    unfold un1
    split
    · exact .nil
    · exact s.nd j
  nz := fun j a h z => by
    have h' := un1_sub h
    rcases z with z | z
    · exact s.nz j a h' z
    · refine s.dis j i a (fun q => ?_) h' z
      subst q
      rw [un1_same] at h
      cases h
  zd := fun a z => by
    rcases z with z | z
    · exact s.zd a z
    · exact s.laid z
theorem Stp.frzAt {G : Addr → Prop} : Stp Z (Tot Fs) H (fun a => Z a ∨ a ∈ Fs i) (Tot (un1 Fs i)) H where
  zz := fun _ z => .inl z
  keep := fun _ _ e _ => e
  fsub := fun a ⟨j, h⟩ => .inl ⟨j, un1_sub h⟩
  zsub := fun a z => by
    rcases z with z | z
    · exact .inl z
    · exact .inr (.inl ⟨i, z⟩)
  dom := fun _ h => h
theorem SOk.moved (s : SOk K Z H ρ σ Fs) (e : gt ρ i = some w) : SOk K Z H (pt ρ i none) σ (un1 Fs i) where
  len := by rw [pt_len]; exact s.len
  here := fun j u q => by
    by_cases hj : j = i
    · subst hj
      rw [gt_pt_same (gt_lt e)] at q
      cases q
    · rw [gt_pt_ne hj] at q
      rw [un1_ne hj]
      exact s.here j u q
  gone := fun j q => by
    by_cases hj : j = i
    · rw [hj, un1_same]
    · rw [gt_pt_ne hj] at q
      rw [un1_ne hj]
      exact s.gone j q
  dis := fun j k a n h h' => s.dis j k a n (un1_sub h) (un1_sub h')
  nd := fun j => by
    unfold un1
    split
    · exact .nil
    · exact s.nd j
  nz := fun j a h z => s.nz j a (un1_sub h) z
  zd := s.zd
end
theorem kd_var {i : Nat} {x : Str} {pos : Pos} (hn : ct.N[i]? = some x) (hv : visB ct.sc x = true) : KD pm ct (.Name x pos) (eV i) := by
  refine ⟨fun X E xo t => (pe_nm xo hn hv).imp fun σ H Q ⟨Z, ρ, Fs, ok, h⟩ => ?_⟩
  unfold eV at h
  cases e : gt ρ i with
  | none => rw [e] at h; exact h.elim
  | some w =>
    rw [e, Option.bind_some] at h
    cases e2 : frz w with
    | none => rw [e2] at h; exact h.elim
    | some y =>
      rw [e2] at h
      obtain ⟨v, h1, h2⟩ := ok.here i w e
      exact ⟨v, h1, h v _ H (un1 Fs i) (ok.frzAt e e2) (h2.frz (fun _ z => .inl z) (fun _ z => .inr z) e2) (Stp.frzAt (G := Z))⟩
theorem ke_mv {i : Nat} {x : Str} {pos : Pos} (hn : ct.N[i]? = some x) (hv : visB ct.sc x = true) : KE pm ct (.Name x pos) (eM i) := by
  refine ⟨fun X E xo t => (pe_nm xo hn hv).imp fun σ H Q ⟨Z, ρ, Fs, ok, h⟩ => ?_⟩
  unfold eM at h
  cases e : gt ρ i with
  | none => rw [e] at h; exact h.elim
  | some w =>
    rw [e] at h
    obtain ⟨v, h1, h2⟩ := ok.here i w e
    refine ⟨v, h1, h v Z H (un1 Fs i) (Fs i) (ok.moved e) h2 (ok.nd i) (fun c hc => ok.nz i c hc) (fun c hc ⟨j, z⟩ => ?_) (Stp.refl.wk (fun _ z => z) fun c z => ?_)⟩
    · refine ok.dis j i c (fun q => ?_) (un1_sub z) hc
      subst q
      rw [un1_same] at z
      cases z
    · rcases z with ⟨j, z⟩ | z
      · exact .inl ⟨j, un1_sub z⟩
      · exact .inl ⟨i, z⟩
theorem ke_x {i : Nat} {x : Str} {pos : Pos} (hn : ct.N[i]? = some x) (hv : visB ct.sc x = true) : KE pm ct (.Name x pos) (eX i) := by
  refine ⟨fun X E xo t => (pe_nm xo hn hv).imp fun σ H Q ⟨Z, ρ, Fs, ok, h⟩ => ?_⟩
  unfold eX at h
  split at h
  · rename_i C y e
    obtain ⟨v, h1, h2⟩ := ok.here i _ e
    exact ⟨v, h1, PR.fin h ok h2.exAt⟩
  · exact h.elim
theorem kd_con {i : Nat} {x : Str} {c : PyData} {pos : Pos} (hc : pm.C i = some (x, c)) (hg : glB ct.sc x = true) : KD pm ct (.Name x pos) (eC c) := by
  refine ⟨fun X E xo t => ?_⟩
  obtain ⟨u, v, h1, h2, h3⟩ := xo.con i x c hc
  obtain ⟨h4, h5⟩ := glB_ok hg xo.sc
  exact (pe_glob h4 h1 h2 h5).imp fun σ H Q ⟨Z, ρ, Fs, ok, h⟩ => PR0.fin h ok (h3 Z H)
end
end Ev
set_option Elab.async false
set_option maxRecDepth 100000
set_option maxHeartbeats 4000000
/-! Ev4: operators, comparisons, tests. -/
namespace Ev
open PySem PySem.Spec PyProof.Rows L2

/-! ### rules for lists that are read -/
section
variable {X : Cx} {pins : List (Addr × Obj)} {σ : L2.St} {H : Hp} {s : Shared}
theorem rdl {l : Addr} {xs : List V} (I : Inv X pins σ H s) (h : Rd H l (.lst xs)) :
    xs.length ≤ sizeLine ∧ ∃ (its : List Value) (n : Nat), Vals xs its ∧ s.heap.get? l = some { cls := .type "list", data := .seq its.toArray n } := h.ok I.hok
def rCatR : R2 := fun x y H Q => ∃ a b xs ys, x = .ref a ∧ y = .ref b ∧ Rd H a (.lst xs) ∧ Rd H b (.lst ys) ∧ xs.length + ys.length ≤ sizeLine ∧ ∀ p, H p = none → Q (.ref p) (upd H p (.lst (xs ++ ys)))
theorem op_catR : OpR X (binaryOp .Add) rCatR := by
  intro pins s σ H x y v u Q I rx ry ⟨a, b, xs, ys, ex, ey, ha, hb, hz, q⟩
  subst ex ey
  cases rx
  cases ry
  obtain ⟨_, i1, n1, r1, g1⟩ := rdl I ha
  obtain ⟨_, i2, n2, r2, g2⟩ := rdl I hb
  have l1 := r1.length
  have l2 := r2.length
  refine PySem.P.add_list g1 g2 ?_ (by simp only [List.size_toArray]; omega)
  rw [show i1.toArray ++ i2.toArray = (i1 ++ i2).toArray from by simp]
  exact ⟨.ref _, _, I.lnew (t' := s.toks) (r1.append r2) (by simp only [List.length_append]; omega), rfl, q _ I.fresh⟩
def rRepR : R2 := fun x y H Q => ∃ a k xs, x = .ref a ∧ y = .int k ∧ Rd H a (.lst xs) ∧ -(2 ^ 63) ≤ k ∧ k < 2 ^ 63 ∧ xs.length * k.toNat ≤ sizeLine ∧ ∀ p, H p = none → Q (.ref p) (upd H p (.lst (List.replicate k.toNat xs).flatten))
theorem rep_fold (its : List Value) (k : Nat) : List.foldl (fun a b => a ++ b) #[] (List.replicate (if its.toArray.isEmpty = true then 0 else k) its.toArray) = (List.replicate k its).flatten.toArray := by
  have h : ∀ m, List.foldl (fun a b => a ++ b) #[] (List.replicate m its.toArray) = (List.replicate m its).flatten.toArray := fun m => (foldl_rep its m []).trans (by rw [List.nil_append])
  rw [h]
  cases its <;> simp
theorem op_repR : OpR X (binaryOp .Mult) rRepR := by
  intro pins s σ H x y v u Q I rx ry ⟨a, k, xs, ex, ey, ha, h1, h2, hz, q⟩
  subst ex ey
  cases rx
  obtain ⟨t, et⟩ := ry
  subst et
  obtain ⟨_, its, n, r, e⟩ := rdl I ha
  have lr := r.length
  have small : its.toArray.size * k.toNat ≤ sizeLine := by rw [List.size_toArray, ← lr]; exact hz
  have c1 : ¬ (!Builtin.List.listFitsIndex k) = true := by rw [fitsIndex_both h1 h2]; exact Bool.false_ne_true
  have c2 : ¬ its.toArray.size * k.toNat > (2 ^ 63 - 1) / 8 := fun z => absurd (Nat.lt_of_lt_of_le z small) (by decide)
  have c3 : ¬ Builtin.List.listTooLong (its.toArray.size * k.toNat) = true := by rw [notLongL small]; exact Bool.false_ne_true
  have ty : s.TypeIs (.ref a) "list" := ⟨_, e, rfl⟩
  refine wpAny_binaryOp_repeat_ref (T := "list") (U := "int") (by decide) ty (fun s' => typeIs_int s' k t) noFill_list_mul F.fills_int_mul F.slot_int_rmul repeat_list F.slot_int_index.lookup ?_
  refine call_meets F.slot_int_rmul (typeIs_int s k t) F.entry_int_rmul (F.args_int_rmul_2 _ _) (int___rmul___int_list k t a its.toArray n) ⟨e, rfl, ty, ?_⟩
  refine call_meets F.slot_list_mul ty F.entry_list_mul (F.args_list_mul_2 _ _) (AutoListH.list___mul___list_int_3 a its.toArray n k t c1 c2 c3) ⟨e, ?_⟩
  rw [rep_fold]
  exact ⟨.ref _, _, I.lnew (t' := s.toks) (r.rep k.toNat) (by rw [PyProof.Rows.lm_len_rep_flat, Nat.mul_comm]; exact hz), rfl, q _ I.fresh⟩
theorem size_rep (a : Array Nat) : ∀ (k : Nat) (acc : Array Nat), (List.foldl (fun a b => a ++ b) acc (List.replicate k a)).size = acc.size + k * a.size
  | 0, acc => by simp
  | k + 1, acc => by
    rw [List.replicate_succ, List.foldl_cons, size_rep a k, Array.size_append, Nat.succ_mul]
    omega
/-- a text some times -/
def repS (x : Str) (n : Int) : Str := if n < 1 then Str.empty else if (n == 1 || x.length == 0) = true then x else ⟨(List.replicate n.toNat x.cps).foldl (· ++ ·) #[]⟩
def repSB (x : Str) (n : Int) : Bool := decide (-(2 ^ 62) ≤ n) && decide (n < 2 ^ 20) && decide (x.length * n.toNat ≤ 16777216)
theorem op_repS : OpR X (binaryOp .Mult) fun x y H Q => ∃ z n, x = .str z ∧ y = .int n ∧ repSB z n = true ∧ Q (.str (repS z n)) H := by
  intro pins s σ H x y v u Q I rx ry ⟨z, n, ex, ey, hb, q⟩
  subst ex ey
  obtain ⟨t, et⟩ := rx
  obtain ⟨t', et'⟩ := ry
  subst et et'
  unfold repSB at hb
  simp only [Bool.and_eq_true, decide_eq_true_eq] at hb
  obtain ⟨⟨h1, h2⟩, h3⟩ := hb
  refine PySem.P.mul_str ?_ ?_ ?_ ?_
  · rw [decide_eq_false (by omega), decide_eq_false (by omega)]
    rfl
  · intro hn _ hc
    have e1 : (2 : Int) ^ 63 - 1 = 9223372036854775807 := by decide
    have e2 : (2 : Int) ^ 20 = 1048576 := by decide
    have hlen : (z.length : Int) ≤ 16777216 := by
      have hnn : 1 ≤ n.toNat := by omega
      have h4 : z.length * 1 ≤ z.length * n.toNat := Nat.mul_le_mul_left _ hnn
      omega
    have h5 : (9223372036854775807 : Int) / 1048576 ≤ (2 ^ 63 - 1) / n := by
      rw [e1]
      rw [Int.le_ediv_iff_mul_le (by omega)]
      have h6 : (9223372036854775807 : Int) / 1048576 * n ≤ (9223372036854775807 : Int) / 1048576 * 1048576 := Int.mul_le_mul_of_nonneg_left (by omega) (by decide)
      have h7 : (9223372036854775807 : Int) / 1048576 * 1048576 ≤ 9223372036854775807 := by decide
      omega
    have h8 : (9223372036854775807 : Int) / 1048576 = 8796093022207 := by decide
    omega
  · intro _ _
    show decide (z.length * n.toNat > sizeLine) = false
    rw [sizeLine_eq]
    exact decide_eq_false (by omega)
  · have fin : ∀ (y : Str) (k : Nat) (tk : Tok), y = repS z n → EP X pins σ Q (.str y tk) { s with toks := k } := fun y k tk ey => ⟨.str y, H, I.tok _, ⟨_, rfl⟩, by rw [ey]; exact q⟩
    unfold repS at fin
    split
    · rename_i hn
      exact ⟨by decide, fin _ _ _ (by rw [if_pos hn])⟩
    · rename_i hn
      split
      · rename_i he
        exact fin z s.toks t (by rw [if_neg hn, if_pos he])
      · rename_i he
        refine ⟨?_, fin _ _ _ (by rw [if_neg hn, if_neg he])⟩
        show (List.foldl (fun a b => a ++ b) #[] (List.replicate n.toNat z.cps)).size ≤ sizeLine
        rw [size_rep, sizeLine_eq]
        have e : z.cps.size = z.length := rfl
        rw [Array.size_empty, e, Nat.zero_add, Nat.mul_comm]
        exact h3
end

/-! ### two operands -/
def imm (x : PyData) : Option W := some (.d x)
def binA : PyData → PyData → Option W
  | .int a, .int b => imm (.int (a + b))
  | .int a, .bool b => imm (.int (a + if b then 1 else 0))
  | .str a, .str b => if a.length + b.length ≤ 16777216 then imm (.str (a ++ b)) else none
  | .list a, .list b => if a.length + b.length ≤ 16777216 then some (.fl (a ++ b)) else none
  | _, _ => none
def binS : PyData → PyData → Option W
  | .int a, .int b => imm (.int (a - b))
  | _, _ => none
/-- a product that the machine makes -/
def mulB (a b : Int) : Bool := !(decide (Builtin.Int.intBits a > shortFactorBits) && decide (Builtin.Int.intBits b > shortFactorBits) && Builtin.Int.intTooBig (Builtin.Int.intBits a + Builtin.Int.intBits b))
def binM : PyData → PyData → Option W
  | .int a, .int b => if mulB a b then imm (.int (a * b)) else none
  | .list a, .int n => if -(2 ^ 62) ≤ n ∧ n < 2 ^ 62 ∧ a.length * n.toNat ≤ 16777216 then some (.fl (List.replicate n.toNat a).flatten) else none
  | .str a, .int n => if repSB a n then imm (.str (repS a n)) else none
  | _, _ => none
def binQ : PyData → PyData → Option W
  | .int a, .int b => if b ≠ 0 ∧ Builtin.divisionGoesByPylong a b = false then imm (.int (a.fdiv b)) else none
  | _, _ => none
def binR : PyData → PyData → Option W
  | .int a, .int b => if b ≠ 0 then imm (.int (a.fmod b)) else none
  | _, _ => none
def binP : PyData → PyData → Option W
  | .int a, .int n => if 0 ≤ n ∧ (Builtin.Int.intBits a : Int) * n ≤ 2 ^ 27 then imm (.int (a ^ n.toNat)) else none
  | _, _ => none
section
variable {X : Cx}
abbrev rA : R2 := fun x y H Q => (rI0 (fun i j => .int (i + j)) x y H Q ∨ (∃ i k, x = .int i ∧ y = .bl k ∧ Q (.int (i + b2i k)) H)) ∨ (∃ i j, x = .str i ∧ y = .str j ∧ i.length + j.length ≤ sizeLine ∧ Q (.str (i ++ j)) H) ∨ rCatR x y H Q
theorem op_A : OpR X (binaryOp .Add) rA := (op_add.or op_add_ib).or (op_add_str.or op_catR)
abbrev rM : R2 := fun x y H Q => rI IntMulOk (fun i j => .int (i * j)) x y H Q ∨ rRepR x y H Q ∨ ∃ z n, x = .str z ∧ y = .int n ∧ repSB z n = true ∧ Q (.str (repS z n)) H
theorem op_M : OpR X (binaryOp .Mult) rM := OpR.or (opI fun _ _ _ _ _ _ _ hc q => mul_int q hc) (op_repR.or op_repS)
abbrev rQ : R2 := rI (fun i j => j ≠ 0 ∧ Builtin.divisionGoesByPylong i j = false) fun i j => .int (i.fdiv j)
theorem op_Q : OpR X (binaryOp .FloorDiv) rQ := opI fun _ _ _ _ _ _ _ hc q => floordiv_int hc.1 q (.inl hc.2)
abbrev rP : R2 := rI (fun i j => 0 ≤ j ∧ (Builtin.Int.intBits i : Int) * j ≤ 2 ^ 27) fun i j => .int (i ^ j.toNat)
theorem op_P : OpR X (binaryOp .Pow) rP := opI fun _ _ _ _ _ _ _ hc q => pow_int hc.1 hc.2 q
end
section
variable {K : PySem.W.Frag} {Z : Addr → Prop} {H : Hp} {v : V}
theorem RX.int_ {i : Int} (h : RX K Z H (.int i) v) : v = .int i := by
  cases h with
  | imm h _ _ => cases h; rfl
theorem RX.bool_ {b : Bool} (h : RX K Z H (.bool b) v) : v = .bl b := by
  cases h with
  | imm h _ _ => cases h; rfl
theorem RX.str_ {z : Str} (h : RX K Z H (.str z) v) : v = .str z := by
  cases h with
  | imm h _ _ => cases h; rfl
theorem RX.non_ (h : RX K Z H .none v) : v = .non := by
  cases h with
  | imm h _ _ => cases h; rfl
theorem RX.list_ {xs : List PyData} (h : RX K Z H (.list xs) v) : ∃ a vs, v = .ref a ∧ Rd H a (.lst vs) ∧ RDs K Z H xs vs := by
  cases h with
  | lst h r => exact ⟨_, _, rfl, h, r⟩
  | imm _ h _ => exact absurd rfl (h xs)
theorem RX.tup_ {xs : List PyData} (h : RX K Z H (.tuple xs) v) : ∃ a vs, v = .ref a ∧ SqT K H a vs ∧ RDs K Z H xs vs := by
  cases h with
  | tup h r => exact ⟨_, _, rfl, h, r⟩
  | imm _ _ h => exact absurd rfl (h xs)
end
section
variable {g : G0}
theorem immFin {E : WX} {σ : L2.St} {Z : Addr → Prop} {H : Hp} {ρ : Sl} {Fs : Nat → List Addr} {Q : VK} {x : PyData} {v : V} {w : W} (s : SOk g.K Z H ρ σ Fs) (p : PR g E σ (rW g) (.ok w ρ) Z (Tot Fs) H Q) (e : imm x = some w) (r : RD g.K Z H x v) : Q v H := by
  cases e
  exact PR.fin p s (.d r)
theorem ful_A : Ful2 g rA binA := by
  intro E σ Z H ρ Fs Q x y v u w s rx ry e p
  unfold binA at e
  split at e
  · rw [rx.int_, ry.int_]
    exact .inl (.inl ⟨_, _, rfl, rfl, immFin s p e (.int _)⟩)
  · rename_i a b
    rw [rx.int_, ry.bool_]
    refine .inl (.inr ⟨_, _, rfl, rfl, immFin s p e ?_⟩)
    cases b <;> exact .int _
  · split at e
    · rename_i hz
      rw [rx.str_, ry.str_]
      exact .inr (.inl ⟨_, _, rfl, rfl, by rw [sizeLine_eq]; exact hz, immFin s p e (.str _)⟩)
    · cases e
  · split at e
    · rename_i hz
      cases e
      obtain ⟨a, vs, rfl, h1, r1⟩ := rx.list_
      obtain ⟨b, us, rfl, h2, r2⟩ := ry.list_
      exact .inr (.inr ⟨_, _, _, _, rfl, rfl, h1, h2, by rw [r1.len, r2.len, sizeLine_eq]; exact hz, fun q hq => PR.newL p s hq (r1.app r2)⟩)
    · cases e
  · cases e
theorem ful_S : Ful2 g (rI0 fun i j => .int (i - j)) binS := by
  intro E σ Z H ρ Fs Q x y v u w s rx ry e p
  unfold binS at e
  split at e
  · rw [rx.int_, ry.int_]
    exact ⟨_, _, rfl, rfl, immFin s p e (.int _)⟩
  · cases e
theorem mulB_ok {a b : Int} (h : mulB a b = true) : IntMulOk a b := by
  unfold mulB at h
  unfold IntMulOk
  intro z
  rw [z] at h
  cases h
theorem ful_M : Ful2 g rM binM := by
  intro E σ Z H ρ Fs Q x y v u w s rx ry e p
  unfold binM at e
  split at e
  · split at e
    · rename_i hc
      rw [rx.int_, ry.int_]
      exact .inl ⟨_, _, rfl, rfl, mulB_ok hc, immFin s p e (.int _)⟩
    · cases e
  · split at e
    · rename_i hc
      cases e
      obtain ⟨a, vs, rfl, h1, r1⟩ := rx.list_
      rw [ry.int_]
      exact .inr (.inl ⟨_, _, _, rfl, rfl, h1, by omega, by omega, by rw [r1.len, sizeLine_eq]; exact hc.2.2, fun q hq => PR.newL p s hq (r1.rep _)⟩)
    · cases e
  · split at e
    · rename_i hc
      rw [rx.str_, ry.int_]
      exact .inr (.inr ⟨_, _, rfl, rfl, hc, immFin s p e (.str _)⟩)
    · cases e
  · cases e
theorem ful_Q : Ful2 g rQ binQ := by
  intro E σ Z H ρ Fs Q x y v u w s rx ry e p
  unfold binQ at e
  split at e
  · split at e
    · rename_i hc
      rw [rx.int_, ry.int_]
      exact ⟨_, _, rfl, rfl, hc, immFin s p e (.int _)⟩
    · cases e
  · cases e
theorem ful_R : Ful2 g (rI (fun _ j => j ≠ 0) fun i j => .int (i.fmod j)) binR := by
  intro E σ Z H ρ Fs Q x y v u w s rx ry e p
  unfold binR at e
  split at e
  · split at e
    · rename_i hc
      rw [rx.int_, ry.int_]
      exact ⟨_, _, rfl, rfl, hc, immFin s p e (.int _)⟩
    · cases e
  · cases e
theorem ful_P : Ful2 g rP binP := by
  intro E σ Z H ρ Fs Q x y v u w s rx ry e p
  unfold binP at e
  split at e
  · split at e
    · rename_i hc
      rw [rx.int_, ry.int_]
      exact ⟨_, _, rfl, rfl, hc, immFin s p e (.int _)⟩
    · cases e
  · cases e
end
section
variable {pm : Pm} {ct : Ct} {a b : Expr} {sa sb : SO} {pos : Pos}
theorem ke_add (ha : KO pm ct a sa) (hb : KO pm ct b sb) : KE pm ct (.BinOp a .Add b pos) (op2 binA sa sb) :=
  ⟨fun X E xo t => (pe_op op_A (ha.go X E xo t) (hb.go X E xo t)).imp fun σ H Q h => op2_read ful_A h⟩
theorem ke_sub (ha : KO pm ct a sa) (hb : KO pm ct b sb) : KE pm ct (.BinOp a .Sub b pos) (op2 binS sa sb) :=
  ⟨fun X E xo t => (pe_op op_sub (ha.go X E xo t) (hb.go X E xo t)).imp fun σ H Q h => op2_read ful_S h⟩
theorem ke_mul (ha : KO pm ct a sa) (hb : KO pm ct b sb) : KE pm ct (.BinOp a .Mult b pos) (op2 binM sa sb) :=
  ⟨fun X E xo t => (pe_op op_M (ha.go X E xo t) (hb.go X E xo t)).imp fun σ H Q h => op2_read ful_M h⟩
theorem ke_fdiv (ha : KO pm ct a sa) (hb : KO pm ct b sb) : KE pm ct (.BinOp a .FloorDiv b pos) (op2 binQ sa sb) :=
  ⟨fun X E xo t => (pe_op op_Q (ha.go X E xo t) (hb.go X E xo t)).imp fun σ H Q h => op2_read ful_Q h⟩
theorem ke_mod (ha : KO pm ct a sa) (hb : KO pm ct b sb) : KE pm ct (.BinOp a .Mod b pos) (op2 binR sa sb) :=
  ⟨fun X E xo t => (pe_op op_modN (ha.go X E xo t) (hb.go X E xo t)).imp fun σ H Q h => op2_read ful_R h⟩
theorem ke_pow (ha : KO pm ct a sa) (hb : KO pm ct b sb) : KE pm ct (.BinOp a .Pow b pos) (op2 binP sa sb) :=
  ⟨fun X E xo t => (pe_op op_P (ha.go X E xo t) (hb.go X E xo t)).imp fun σ H Q h => op2_read ful_P h⟩
end
end Ev
set_option Elab.async false
set_option maxRecDepth 100000
set_option maxHeartbeats 4000000
/-! Ev5: comparisons, tests, and, or, not, if. -/
namespace Ev
open PySem PySem.Spec PyProof.Rows L2

/-! ### frozen trees are what deep comparison reads -/
mutual
theorem RD.dp {K : PySem.W.Frag} {Z : Addr → Prop} {H : Hp} : ∀ {x : PyData} {v : V}, RD K Z H x v → x.canLay0 = true → Dp K H v x
  | _, _, .non, _ => .non
  | _, _, .bl b, _ => .bl b
  | _, _, .int i, _ => .int i
  | _, _, .str z, _ => .str z
  | _, _, .lst h r, c => .lst (.inl h.1) (RDs.dp r (by simpa [PyData.canLay0] using c))
  | _, _, .tup h r, c => .tup h.1 (RDs.dp r (by simpa [PyData.canLay0] using c))
  | _, _, .dct _ _, c => by simp [PyData.canLay0] at c
theorem RDs.dp {K : PySem.W.Frag} {Z : Addr → Prop} {H : Hp} : ∀ {xs : List PyData} {vs : List V}, RDs K Z H xs vs → PyData.canLayAll0 xs = true → DpAll K H vs xs
  | _, _, .nil, _ => .nil
  | _, _, .cons h r, c => by
    simp only [PyData.canLayAll0, Bool.and_eq_true] at c
    exact .cons (RD.dp h c.1) (RDs.dp r c.2)
end
theorem RX.dp {K : PySem.W.Frag} {Z : Addr → Prop} {H : Hp} {x : PyData} {v : V} (h : RX K Z H x v) (c : x.canLay0 = true) : Dp K H v x := by
  cases h with
  | lst h r => exact .lst (.inl h) (r.dp (by simpa [PyData.canLay0] using c))
  | tup h r => exact .tup h (r.dp (by simpa [PyData.canLay0] using c))
  | imm h _ _ => exact h.dp c
def bo (b : Bool) : Option W := some (.d (.bool b))
def cmpE : PyData → PyData → Option W
  | .int a, .int b => bo (a == b)
  | .str a, .str b => bo (a == b)
  | .bool a, .bool b => bo (a == b)
  | x, y => if SeqAt.shaped x && SeqAt.shaped y then bo (PyData.eqv x y) else none
def cmpN : PyData → PyData → Option W
  | .int a, .int b => bo (!(a == b))
  | .str a, .str b => bo (!(a == b))
  | .bool a, .bool b => bo (!(a == b))
  | x, y => if SeqAt.shaped x && SeqAt.shaped y then bo (!PyData.eqv x y) else none
def cmpI (p : Int → Int → Bool) : PyData → PyData → Option W
  | .int a, .int b => bo (p a b)
  | _, _ => none
/-- a number, a text, None, a truth value -/
def flatD : PyData → Bool
  | .none | .bool _ | .int _ | .str _ => true
  | _ => false
def oneSign (z : Str) : Option Nat := match z.cps.toList with
  | [c] => some c
  | _ => none
theorem oneSign_eq {z : Str} {c : Nat} (h : oneSign z = some c) : z = ⟨#[c]⟩ := by
  obtain ⟨⟨l⟩⟩ := z
  unfold oneSign at h
  split at h
  · rename_i d e
    cases h
    have e' : l = [c] := e
    rw [e']
  · cases h
def cmpIn (neg : Bool) : PyData → PyData → Option W
  | .str x, .str z => (oneSign x).bind fun c => bo (if neg then !decide (c ∈ z.cps.toList) else decide (c ∈ z.cps.toList))
  | x, .list ys => if SeqAt.shaped x && SeqAt.shaped (.list ys) then bo (if neg then !(ys.any fun z => PyData.eqv z x) else ys.any fun z => PyData.eqv z x) else none
  | x, .tuple ys => if flatD x && ys.all flatD then bo (if neg then !(ys.any fun z => PyData.eqv z x) else ys.any fun z => PyData.eqv z x) else none
  | _, _ => none
section
variable {g : G0}
theorem boFin {E : WX} {σ : L2.St} {Z : Addr → Prop} {H : Hp} {ρ : Sl} {Fs : Nat → List Addr} {Q : VK} {b : Bool} {w : W} (s : SOk g.K Z H ρ σ Fs) (p : PR g E σ (rW g) (.ok w ρ) Z (Tot Fs) H Q) (e : bo b = some w) {v : V} (ev : v = .bl b) : Q v H := by
  cases e
  rw [ev]
  exact PR.fin p s (.d (.bl b))
theorem shp {x y : PyData} (h : (SeqAt.shaped x && SeqAt.shaped y) = true) : SeqAt.shaped x = true ∧ SeqAt.shaped y = true := Bool.and_eq_true_iff.mp h
abbrev rE (K : PySem.W.Frag) : R2 := fun x y H Q => rEq x y H Q ∨ rEqD K x y H Q
abbrev rN (K : PySem.W.Frag) : R2 := fun x y H Q => rNe x y H Q ∨ rNeD K x y H Q
theorem ful_E : Ful2 g (rE g.K) cmpE := by
  intro E σ Z H ρ Fs Q x y v u w s rx ry e p
  unfold cmpE at e
  split at e
  · rw [rx.int_, ry.int_]
    exact .inl ⟨rfl, boFin s p e (by rw [dec_int])⟩
  · rw [rx.str_, ry.str_]
    exact .inl ⟨rfl, boFin s p e (by rw [dec_str])⟩
  · rw [rx.bool_, ry.bool_]
    exact .inl ⟨rfl, boFin s p e (by rw [dec_bl])⟩
  · split at e
    · rename_i hc
      obtain ⟨h1, h2⟩ := shp hc
      exact .inr ⟨x, y, rx.dp (SeqAt.canLay_of_shaped h1), ry.dp (SeqAt.canLay_of_shaped h2), h1, h2, boFin s p e rfl⟩
    · cases e
theorem ful_N : Ful2 g (rN g.K) cmpN := by
  intro E σ Z H ρ Fs Q x y v u w s rx ry e p
  unfold cmpN at e
  split at e
  · rw [rx.int_, ry.int_]
    exact .inl ⟨rfl, boFin s p e (by rw [dec_int])⟩
  · rw [rx.str_, ry.str_]
    exact .inl ⟨rfl, boFin s p e (by rw [dec_str])⟩
  · rw [rx.bool_, ry.bool_]
    exact .inl ⟨rfl, boFin s p e (by rw [dec_bl])⟩
  · split at e
    · rename_i hc
      obtain ⟨h1, h2⟩ := shp hc
      exact .inr ⟨x, y, rx.dp (SeqAt.canLay_of_shaped h1), ry.dp (SeqAt.canLay_of_shaped h2), h1, h2, boFin s p e rfl⟩
    · cases e
theorem ful_I (q : Int → Int → Bool) : Ful2 g (rI0 fun i j => .bl (q i j)) (cmpI q) := by
  intro E σ Z H ρ Fs Q x y v u w s rx ry e p
  unfold cmpI at e
  split at e
  · rw [rx.int_, ry.int_]
    exact ⟨_, _, rfl, rfl, boFin s p e rfl⟩
  · cases e
theorem flat_of {Z : Addr → Prop} {H : Hp} {x : PyData} {v : V} (h : RD g.K Z H x v) (f : flatD x = true) : flatV v = true := by
  cases h <;> first | rfl | cases f
theorem flat_eq {Z : Addr → Prop} {H : Hp} {x y : PyData} {v u : V} (h : RD g.K Z H x v) (k : RD g.K Z H y u) (f : flatD x = true) (f' : flatD y = true) : eqV v u = PyData.eqv x y := by
  cases h <;> cases k <;> first | rfl | cases f | cases f' | (simp only [eqV, PyData.eqv]; done) | (rename_i a b; simp only [eqV, PyData.eqv]; cases a <;> rfl) | (rename_i a b; simp only [eqV, PyData.eqv]; cases b <;> rfl) | skip
end
section
variable {g : G0}
abbrev rI' (K : PySem.W.Frag) (neg : Bool) : R2 := fun x y H Q =>
  (∃ (c : Nat) (z : Str), x = .str ⟨#[c]⟩ ∧ y = .str z ∧ Q (.bl (if neg then !decide (c ∈ z.cps.toList) else decide (c ∈ z.cps.toList))) H)
  ∨ (∃ d ds, Dp K H x d ∧ Dp K H y (.list ds) ∧ SeqAt.shaped d = true ∧ SeqAt.shaped (.list ds) = true ∧ Q (.bl (if neg then !(ds.any fun z => PyData.eqv z d) else ds.any fun z => PyData.eqv z d)) H) ∨ rIn K neg x y H Q
theorem op_in_ {X : Cx} (hu : X.A.units + 65 < cLine) : OpR X (compareOp .In) (rI' X.K false) :=
  OpR.or op_in_sign ((op_inD hu).or op_in_seq)
theorem op_notin_ {X : Cx} (hu : X.A.units + 65 < cLine) : OpR X (compareOp .NotIn) (rI' X.K true) :=
  OpR.or op_notIn_sign ((op_notInD hu).or op_notIn_seq)
theorem inV_any {Z : Addr → Prop} {H : Hp} {x : PyData} {v : V} (h : RD g.K Z H x v) (f : flatD x = true) : ∀ {ys : List PyData} {us : List V}, RDs g.K Z H ys us → ys.all flatD = true → us.all flatV = true ∧ inV v us = ys.any fun z => PyData.eqv z x
  | _, _, .nil, _ => ⟨rfl, rfl⟩
  | _, _, .cons q r, c => by
    simp only [List.all_cons, Bool.and_eq_true] at c
    obtain ⟨h1, h2⟩ := inV_any h f r c.2
    refine ⟨?_, ?_⟩
    · rw [List.all_cons, flat_of q c.1, h1] <;> rfl
    · unfold inV at h2 ⊢
      rw [List.any_cons, List.any_cons, h2, flat_eq q h c.1 f]
theorem ful_In (neg : Bool) : Ful2 g (rI' g.K neg) (cmpIn neg) := by
  intro E σ Z H ρ Fs Q x y v u w s rx ry e p
  unfold cmpIn at e
  split at e
  · rename_i x z
    cases q : oneSign x with
    | none => rw [q] at e; cases e
    | some c =>
      rw [q] at e
      rw [rx.str_, ry.str_, oneSign_eq q]
      exact .inl ⟨_, _, rfl, rfl, boFin s p e rfl⟩
  · split at e
    · rename_i hc
      obtain ⟨h1, h2⟩ := shp hc
      exact .inr (.inl ⟨x, _, rx.dp (SeqAt.canLay_of_shaped h1), ry.dp (SeqAt.canLay_of_shaped h2), h1, h2, boFin s p e rfl⟩)
    · cases e
  · split at e
    · rename_i hc
      simp only [Bool.and_eq_true] at hc
      obtain ⟨a, us, rfl, h1, r1⟩ := ry.tup_
      have hx : RD g.K Z H x v := by
        cases rx with
        | imm h _ _ => exact h
        | lst _ _ => cases hc.1
        | tup _ _ => cases hc.1
      obtain ⟨h2, h3⟩ := inV_any hx hc.1 r1 hc.2
      refine .inr (.inr ⟨a, us, rfl, .inr h1, flat_of hx hc.1, h2, ?_⟩)
      rw [h3]
      exact boFin s p e rfl
    · cases e
  · cases e
end

/-! ### truth values from values -/
def tst (s : SE) : ST := fun ρ => match s ρ with
  | .ok (.d (.bool b)) ρ' => .ok b ρ'
  | .ok _ _ => .no
  | .ex C x ρ' => .ex C x ρ'
  | .no => .no
section
variable {g : G0} {E : WX} {σ : L2.St} {H : Hp}
theorem tst_read {s : SE} {Q : Bool → Hp → Prop} (h : tT g E (tst s) σ H Q) : tE g E s σ H fun v H1 => ∃ k, v = .bl k ∧ Q k H1 := by
  obtain ⟨Z, ρ, Fs, ok, h⟩ := h
  refine ⟨Z, ρ, Fs, ok, ?_⟩
  unfold tst at h
  cases e : s ρ with
  | no => rw [e] at h; exact h
  | ex C x ρ' => rw [e] at h; exact h
  | ok w ρ' =>
    rw [e] at h
    split at h
    · rename_i b ρ2 e2
      cases e2
      intro v Z' H' Fs' T s' q1 _ _ _ st
      obtain ⟨rfl, rfl⟩ : v = .bl b ∧ T = [] := by
        cases q1 with
        | d q => cases q; exact ⟨rfl, rfl⟩
      exact ⟨b, rfl, h b Z' H' Fs' s' rfl (st.wk (fun _ z => z) fun c z => .inl (.inl z))⟩
    · exact h.elim
    · rename_i e2; cases e2
    · rename_i e2; cases e2
end
section
variable {pm : Pm} {ct : Ct} {a b c : Expr} {sa sb : SO} {pos : Pos}
theorem room64 {X : Cx} (xo : XOk pm ct X) : X.A.units + 64 < cLine := xo.room.units
theorem room65 {X : Cx} (xo : XOk pm ct X) : X.A.units + 65 < cLine := by
  have := xo.room.un
  omega
/-- a comparison by its rule, as a value and as a test -/
theorem ke_cmpR {op : CmpOp} {r : R2} {f : PyData → PyData → Option W} (ho : ∀ X, XOk pm ct X → OpR X (compareOp op) r) (u : Ful2 pm.g r f) (ha : KO pm ct a sa) (hb : KO pm ct b sb) (hm : behindInMarks op b = false) : KE pm ct (.Compare a [op] [b] pos) (op2 f sa sb) :=
  ⟨fun X E xo t => (pe_cmpR (ho X xo) (ha.go X E xo t) (hb.go X E xo t) hm).imp fun σ H Q h => op2_read u h⟩
theorem kt_cmpR {op : CmpOp} {r : R2} {f : PyData → PyData → Option W} (ho : ∀ X, XOk pm ct X → OpR X (compareOp op) r) (u : Ful2 pm.g r f) (ha : KO pm ct a sa) (hb : KO pm ct b sb) (hm : behindInMarks op b = false) : KT pm ct (.Compare a [op] [b] pos) (tst (op2 f sa sb)) :=
  ⟨fun X E xo t => (pt_cmpR (ho X xo) (ha.go X E xo t) (hb.go X E xo t) hm).imp fun σ H Q h => op2_read u (tst_read h)⟩
theorem oE (X : Cx) (xo : XOk pm ct X) : OpR X (compareOp .Eq) (rE pm.g.K) := by
  rw [← xo.hK]
  exact op_eq.or (op_eqD (room64 xo))
theorem oN (X : Cx) (xo : XOk pm ct X) : OpR X (compareOp .NotEq) (rN pm.g.K) := by
  rw [← xo.hK]
  exact op_ne.or (op_neD (room64 xo))
theorem oIn (X : Cx) (xo : XOk pm ct X) : OpR X (compareOp .In) (rI' pm.g.K false) := by
  rw [← xo.hK]
  exact op_in_ (room65 xo)
theorem oNIn (X : Cx) (xo : XOk pm ct X) : OpR X (compareOp .NotIn) (rI' pm.g.K true) := by
  rw [← xo.hK]
  exact op_notin_ (room65 xo)
theorem ke_eq (ha : KO pm ct a sa) (hb : KO pm ct b sb) : KE pm ct (.Compare a [.Eq] [b] pos) (op2 cmpE sa sb) := ke_cmpR oE ful_E ha hb (nomark _)
theorem kt_eq (ha : KO pm ct a sa) (hb : KO pm ct b sb) : KT pm ct (.Compare a [.Eq] [b] pos) (tst (op2 cmpE sa sb)) := kt_cmpR oE ful_E ha hb (nomark _)
theorem ke_ne (ha : KO pm ct a sa) (hb : KO pm ct b sb) : KE pm ct (.Compare a [.NotEq] [b] pos) (op2 cmpN sa sb) := ke_cmpR oN ful_N ha hb (nomark _)
theorem kt_ne (ha : KO pm ct a sa) (hb : KO pm ct b sb) : KT pm ct (.Compare a [.NotEq] [b] pos) (tst (op2 cmpN sa sb)) := kt_cmpR oN ful_N ha hb (nomark _)
abbrev cLt := cmpI fun i j => decide (i < j)
abbrev cLe := cmpI fun i j => decide (i ≤ j)
abbrev cGt := cmpI fun i j => decide (j < i)
abbrev cGe := cmpI fun i j => decide (j ≤ i)
theorem ke_lt (ha : KO pm ct a sa) (hb : KO pm ct b sb) : KE pm ct (.Compare a [.Lt] [b] pos) (op2 cLt sa sb) := ke_cmpR (fun _ _ => op_lt) (ful_I _) ha hb (nomark _)
theorem kt_lt (ha : KO pm ct a sa) (hb : KO pm ct b sb) : KT pm ct (.Compare a [.Lt] [b] pos) (tst (op2 cLt sa sb)) := kt_cmpR (fun _ _ => op_lt) (ful_I _) ha hb (nomark _)
theorem ke_le (ha : KO pm ct a sa) (hb : KO pm ct b sb) : KE pm ct (.Compare a [.LtE] [b] pos) (op2 cLe sa sb) := ke_cmpR (fun _ _ => op_le) (ful_I _) ha hb (nomark _)
theorem kt_le (ha : KO pm ct a sa) (hb : KO pm ct b sb) : KT pm ct (.Compare a [.LtE] [b] pos) (tst (op2 cLe sa sb)) := kt_cmpR (fun _ _ => op_le) (ful_I _) ha hb (nomark _)
theorem ke_gt (ha : KO pm ct a sa) (hb : KO pm ct b sb) : KE pm ct (.Compare a [.Gt] [b] pos) (op2 cGt sa sb) := ke_cmpR (fun _ _ => op_gt) (ful_I _) ha hb (nomark _)
theorem kt_gt (ha : KO pm ct a sa) (hb : KO pm ct b sb) : KT pm ct (.Compare a [.Gt] [b] pos) (tst (op2 cGt sa sb)) := kt_cmpR (fun _ _ => op_gt) (ful_I _) ha hb (nomark _)
theorem ke_ge (ha : KO pm ct a sa) (hb : KO pm ct b sb) : KE pm ct (.Compare a [.GtE] [b] pos) (op2 cGe sa sb) := ke_cmpR (fun _ _ => op_ge) (ful_I _) ha hb (nomark _)
theorem kt_ge (ha : KO pm ct a sa) (hb : KO pm ct b sb) : KT pm ct (.Compare a [.GtE] [b] pos) (tst (op2 cGe sa sb)) := kt_cmpR (fun _ _ => op_ge) (ful_I _) ha hb (nomark _)
theorem ke_in (ha : KO pm ct a sa) (hb : KO pm ct b sb) (hm : behindInMarks .In b = false) : KE pm ct (.Compare a [.In] [b] pos) (op2 (cmpIn false) sa sb) := ke_cmpR oIn (ful_In _) ha hb hm
theorem kt_in (ha : KO pm ct a sa) (hb : KO pm ct b sb) (hm : behindInMarks .In b = false) : KT pm ct (.Compare a [.In] [b] pos) (tst (op2 (cmpIn false) sa sb)) := kt_cmpR oIn (ful_In _) ha hb hm
theorem ke_nin (ha : KO pm ct a sa) (hb : KO pm ct b sb) (hm : behindInMarks .NotIn b = false) : KE pm ct (.Compare a [.NotIn] [b] pos) (op2 (cmpIn true) sa sb) := ke_cmpR oNIn (ful_In _) ha hb hm
theorem kt_nin (ha : KO pm ct a sa) (hb : KO pm ct b sb) (hm : behindInMarks .NotIn b = false) : KT pm ct (.Compare a [.NotIn] [b] pos) (tst (op2 (cmpIn true) sa sb)) := kt_cmpR oNIn (ful_In _) ha hb hm

/-! ### None -/
def lkN (ρ : Sl) : O → Option Bool
  | .v .none => some true
  | .v _ => some false
  | .s i => match gt ρ i with
    | some (.d .none) => some true
    | some _ => some false
    | none => none
def isN (pos : Bool) (a : SO) : SE := fun ρ => (a ρ).bd fun o ρ1 => ret ((lkN ρ1 o).map fun k => .d (.bool (k == pos))) ρ1
theorem nonV {K : PySem.W.Frag} {Z : Addr → Prop} {H : Hp} {w : W} {v : V} {F : List Addr} (h : RW K Z H w v F) : decide (v = .non) = (match w with | .d .none => true | _ => false) := by
  cases h with
  | d h => cases h <;> rfl
  | fl _ _ => rfl
  | ow _ _ => rfl
  | ex => rfl
theorem lkN_ok {E : WX} {σ : L2.St} {Z : Addr → Prop} {H : Hp} {ρ : Sl} {Fs : Nat → List Addr} {o : O} {v : V} {k : Bool} (s : SOk pm.g.K Z H ρ σ Fs) (h : OIs pm.g σ Z H o v) (e : lkN ρ o = some k) : decide (v = .non) = k := by
  cases o with
  | v x =>
    have h' : RD pm.g.K Z H x v := h
    cases h' <;> exact Option.some.inj e
  | s i =>
    have e' : (match gt ρ i with | some (.d .none) => some true | some _ => some false | none => none) = some k := e
    cases q : gt ρ i with
    | none => rw [q] at e'; cases e'
    | some w =>
      rw [q] at e'
      obtain ⟨u, h1, h2⟩ := s.here i w q
      have h0 : σ[i]? = some (some v) := h
      rw [h1] at h0
      cases h0
      rw [nonV h2]
      split at e'
      · rename_i z; cases z; exact Option.some.inj e'
      · rename_i w' z1 z2
        cases z2
        have e2 := Option.some.inj e'
        rw [← e2]
        split
        · rename_i z; exact absurd rfl (z1 )
        · rfl
      · rename_i z; cases z
theorem isN_read {E : WX} {σ : L2.St} {H : Hp} {Q : VK} {k : Bool} (h : tE pm.g E (isN k sa) σ H Q) : tO pm.g E sa σ H fun v H1 => Q (.bl (decide (v = .non) == k)) H1 := by
  obtain ⟨Z, ρ, Fs, ok, h⟩ := h
  refine ⟨Z, ρ, Fs, ok, (PR.bd h).imp ?_⟩
  rintro v H1 ⟨o, ρ1, Z1, Fs1, s1, ho, -, st, h1⟩
  cases e : lkN ρ1 o with
  | none => rw [e] at h1; exact h1.elim
  | some b =>
    rw [e] at h1
    rw [lkN_ok (E := E) s1 ho e]
    exact PR.fin h1 s1 (.d (.bl _))
theorem ke_isN {j p'} (ha : KO pm ct a sa) : KE pm ct (.Compare a [.Is] [.Constant .none j p'] pos) (isN true sa) :=
  ⟨fun X E xo t => (pe_cmp (pc_isN (ha.go X E xo t))).imp fun σ H Q h => by
    have := isN_read h
    simpa [tIsN] using this⟩
theorem ke_notN {j p'} (ha : KO pm ct a sa) : KE pm ct (.Compare a [.IsNot] [.Constant .none j p'] pos) (isN false sa) :=
  ⟨fun X E xo t => (pe_cmp (pc_notN (ha.go X E xo t))).imp fun σ H Q h => by
    have := isN_read h
    simpa [tNotN] using this⟩
theorem kt_isN {j p'} (ha : KO pm ct a sa) : KT pm ct (.Compare a [.Is] [.Constant .none j p'] pos) (tst (isN true sa)) :=
  ⟨fun X E xo t => (pt_cmp (pc_isN (ha.go X E xo t))).imp fun σ H Q h => by
    have := isN_read (tst_read h)
    simpa [tB, tIsN] using this⟩
theorem kt_notN {j p'} (ha : KO pm ct a sa) : KT pm ct (.Compare a [.IsNot] [.Constant .none j p'] pos) (tst (isN false sa)) :=
  ⟨fun X E xo t => (pt_cmp (pc_notN (ha.go X E xo t))).imp fun σ H Q h => by
    have := isN_read (tst_read h)
    simpa [tB, tNotN] using this⟩
end
end Ev
set_option Elab.async false
set_option maxRecDepth 100000
set_option maxHeartbeats 4000000
/-! Ev6: and, or, not, if; displays, arguments. -/
namespace Ev
open PySem PySem.Spec PyProof.Rows L2

def andE (a : SD) (b : SE) : SE := fun ρ => (a ρ).bd fun x ρ1 => match x with
  | .bool true => b ρ1
  | .bool false => .ok (.d (.bool false)) ρ1
  | _ => .no
def orE (a : SD) (b : SE) : SE := fun ρ => (a ρ).bd fun x ρ1 => match x with
  | .bool true => .ok (.d (.bool true)) ρ1
  | .bool false => b ρ1
  | _ => .no
def notE (a : SD) : SE := fun ρ => (a ρ).bd fun x ρ1 => match x with
  | .bool b => .ok (.d (.bool (!b))) ρ1
  | _ => .no
def ifE (c : ST) (a b : SE) : SE := fun ρ => (c ρ).bd fun k ρ1 => match k with
  | true => a ρ1
  | false => b ρ1
def andT (a b : ST) : ST := fun ρ => (a ρ).bd fun k ρ1 => match k with
  | true => b ρ1
  | false => .ok false ρ1
def orT (a b : ST) : ST := fun ρ => (a ρ).bd fun k ρ1 => match k with
  | true => .ok true ρ1
  | false => b ρ1
def notT (a : ST) : ST := fun ρ => (a ρ).bd fun k ρ1 => .ok (!k) ρ1
/-- tests that are read as values -/
def plainT : Expr → Bool
  | .UnaryOp .Not .. => false
  | .BoolOp .. => false
  | .IfExp .. => false
  | .Compare .. => false
  | _ => true
theorem plainT_ok {e : Expr} {env : Env} (h : plainT e = true) : ∀ whole, isTrue e env whole = (do let v ← whole; standAt e.pos; holding [v] (truthy v)) := by
  intro whole
  cases e with
  | UnaryOp op x p => cases op <;> first | rfl | cases h
  | BoolOp _ _ _ => cases h
  | IfExp _ _ _ _ => cases h
  | Compare _ _ _ _ => cases h
  | _ => rfl
section
variable {pm : Pm} {ct : Ct} {a b c : Expr} {rest : List Expr} {pos : Pos}
theorem ke_one {op} {s : SE} (h : KE pm ct a s) : KE pm ct (.BoolOp op [a] pos) s := ⟨fun X E xo t => pe_one (h.go X E xo t)⟩
theorem bool_of {K : PySem.W.Frag} {Z : Addr → Prop} {H : Hp} {b : Bool} {v : V} (h : RD K Z H (.bool b) v) : v = .bl b := by
  cases h
  rfl
theorem ke_and {sa : SD} {sb : SE} (ha : KD pm ct a sa) (hb : KE pm ct (.BoolOp .And (b :: rest) pos) sb) : KE pm ct (.BoolOp .And (a :: b :: rest) pos) (andE sa sb) := by
  refine ⟨fun X E xo t => (pe_and (ha.go X E xo t) (hb.go X E xo t)).imp fun σ H Q ⟨Z, ρ, Fs, ok, h⟩ => ⟨Z, ρ, Fs, ok, (PR.bd h).imp ?_⟩⟩
  rintro v H1 ⟨x, ρ1, Z1, Fs1, s1, hx, -, st, h1⟩
  split at h1
  · exact ⟨true, bool_of hx, Z1, ρ1, Fs1, s1, h1⟩
  · exact ⟨false, bool_of hx, PR.fin h1 s1 (.d (.bl false))⟩
  · exact h1.elim
theorem ke_or {sa : SD} {sb : SE} (ha : KD pm ct a sa) (hb : KE pm ct (.BoolOp .Or (b :: rest) pos) sb) : KE pm ct (.BoolOp .Or (a :: b :: rest) pos) (orE sa sb) := by
  refine ⟨fun X E xo t => (pe_or (ha.go X E xo t) (hb.go X E xo t)).imp fun σ H Q ⟨Z, ρ, Fs, ok, h⟩ => ⟨Z, ρ, Fs, ok, (PR.bd h).imp ?_⟩⟩
  rintro v H1 ⟨x, ρ1, Z1, Fs1, s1, hx, -, st, h1⟩
  split at h1
  · exact ⟨true, bool_of hx, PR.fin h1 s1 (.d (.bl true))⟩
  · exact ⟨false, bool_of hx, Z1, ρ1, Fs1, s1, h1⟩
  · exact h1.elim
theorem ke_not {sa : SD} (ha : KD pm ct a sa) : KE pm ct (.UnaryOp .Not a pos) (notE sa) := by
  refine ⟨fun X E xo t => (pe_not (ha.go X E xo t)).imp fun σ H Q ⟨Z, ρ, Fs, ok, h⟩ => ⟨Z, ρ, Fs, ok, (PR.bd h).imp ?_⟩⟩
  rintro v H1 ⟨x, ρ1, Z1, Fs1, s1, hx, -, st, h1⟩
  split at h1
  · rename_i b
    exact ⟨b, bool_of hx, PR.fin h1 s1 (.d (.bl _))⟩
  · exact h1.elim
theorem ke_if {sc' : ST} {sa sb : SE} (hc : KT pm ct c sc') (ha : KE pm ct a sa) (hb : KE pm ct b sb) : KE pm ct (.IfExp c a b pos) (ifE sc' sa sb) := by
  refine ⟨fun X E xo t => (pe_ifExp (hc.go X E xo t) (ha.go X E xo t) (hb.go X E xo t)).imp fun σ H Q ⟨Z, ρ, Fs, ok, h⟩ => ⟨Z, ρ, Fs, ok, (PR.bd h).imp ?_⟩⟩
  rintro v H1 ⟨x, ρ1, Z1, Fs1, s1, hx, -, st, h1⟩
  have hx' : x = v := hx
  subst hx'
  cases x with
  | true => rw [if_pos rfl]; exact ⟨Z1, ρ1, Fs1, s1, h1⟩
  | false => rw [if_neg Bool.false_ne_true]; exact ⟨Z1, ρ1, Fs1, s1, h1⟩
theorem kt_val {s : SE} (h : KE pm ct a s) (hp : plainT a = true) : KT pm ct a (tst s) :=
  ⟨fun X E xo t => (pt_val (h.go X E xo t) (plainT_ok hp)).imp fun σ H Q h => tst_read h⟩
theorem kt_w {s : ST} (h : KW pm ct a s) : KT pm ct a s := ⟨fun X E xo t => (h.go X E xo t).pt⟩
theorem kw_and1 {s : ST} (h : KT pm ct a s) : KW pm ct (.BoolOp .And [a] pos) s := ⟨fun X E xo t => pw_and1 (h.go X E xo t)⟩
theorem kw_or1 {s : ST} (h : KT pm ct a s) : KW pm ct (.BoolOp .Or [a] pos) s := ⟨fun X E xo t => pw_or1 (h.go X E xo t)⟩
theorem kw_and {sa sb : ST} (ha : KT pm ct a sa) (hb : KW pm ct (.BoolOp .And (b :: rest) pos) sb) : KW pm ct (.BoolOp .And (a :: b :: rest) pos) (andT sa sb) := by
  refine ⟨fun X E xo t => (pw_and (ha.go X E xo t) (hb.go X E xo t)).imp fun σ H Q ⟨Z, ρ, Fs, ok, h⟩ => ⟨Z, ρ, Fs, ok, (PR0.bd h).imp ?_⟩⟩
  rintro v H1 ⟨x, ρ1, Z1, Fs1, s1, hx, -, st, h1⟩
  have hx' : x = v := hx
  subst hx'
  cases x with
  | true => rw [if_pos rfl]; exact ⟨Z1, ρ1, Fs1, s1, h1⟩
  | false => rw [if_neg Bool.false_ne_true]; exact PR0.fin h1 s1 rfl
theorem kw_or {sa sb : ST} (ha : KT pm ct a sa) (hb : KW pm ct (.BoolOp .Or (b :: rest) pos) sb) : KW pm ct (.BoolOp .Or (a :: b :: rest) pos) (orT sa sb) := by
  refine ⟨fun X E xo t => (pw_or (ha.go X E xo t) (hb.go X E xo t)).imp fun σ H Q ⟨Z, ρ, Fs, ok, h⟩ => ⟨Z, ρ, Fs, ok, (PR0.bd h).imp ?_⟩⟩
  rintro v H1 ⟨x, ρ1, Z1, Fs1, s1, hx, -, st, h1⟩
  have hx' : x = v := hx
  subst hx'
  cases x with
  | true => rw [if_pos rfl]; exact PR0.fin h1 s1 rfl
  | false => rw [if_neg Bool.false_ne_true]; exact ⟨Z1, ρ1, Fs1, s1, h1⟩
theorem kt_not {sa : ST} (ha : KT pm ct a sa) : KT pm ct (.UnaryOp .Not a pos) (notT sa) := by
  refine ⟨fun X E xo t => (pt_not (ha.go X E xo t)).imp fun σ H Q ⟨Z, ρ, Fs, ok, h⟩ => ⟨Z, ρ, Fs, ok, (PR0.bd h).imp ?_⟩⟩
  rintro v H1 ⟨x, ρ1, Z1, Fs1, s1, hx, -, st, h1⟩
  have hx' : x = v := hx
  subst hx'
  exact PR0.fin h1 s1 rfl

/-! ### two comparisons in a row -/
def cm2 (f f' : PyData → PyData → Option W) (a b c : SO) : SE := fun ρ => (a ρ).bd fun o ρ1 => (b ρ1).bd fun o2 ρ2 => match (lk ρ2 o).bind fun x => (lk ρ2 o2).bind fun y => f x y with
  | some (.d (.bool true)) => (c ρ2).bd fun o3 ρ3 => ret ((lk ρ3 o2).bind fun y => (lk ρ3 o3).bind fun z => f' y z) ρ3
  | some (.d (.bool false)) => .ok (.d (.bool false)) ρ2
  | _ => .no
/-- a rule that gives a truth value and lays nothing -/
def Ful2b (g : G0) (r : R2) (f : PyData → PyData → Option W) : Prop := ∀ (Z : Addr → Prop) (H : Hp) (Q : VK) (x y : PyData) (v u : V) (k : Bool), RX g.K Z H x v → RX g.K Z H y u → f x y = some (.d (.bool k)) → Q (.bl k) H → r v u H Q
theorem ful_Ib (q : Int → Int → Bool) : Ful2b pm.g (rI0 fun i j => .bl (q i j)) (cmpI q) := by
  intro Z H Q x y v u k rx ry e h
  unfold cmpI at e
  split at e
  · rw [rx.int_, ry.int_]
    cases e
    exact ⟨_, _, rfl, rfl, h⟩
  · cases e
theorem cm2_read {E : WX} {σ : L2.St} {H : Hp} {Q : VK} {r r' : R2} {f f' : PyData → PyData → Option W} {sa sb sc' : SO} (u : Ful2b pm.g r f) (u' : Ful2 pm.g r' f') (h : tE pm.g E (cm2 f f' sa sb sc') σ H Q) : tChain r r' (tO pm.g E sa) (tO pm.g E sb) (tO pm.g E sc') σ H Q := by
  obtain ⟨Z, ρ, Fs, ok, h⟩ := h
  refine ⟨Z, ρ, Fs, ok, (PR.bd h).imp ?_⟩
  rintro v H1 ⟨o, ρ1, Z1, Fs1, s1, ho, -, st, h1⟩
  refine ⟨Z1, ρ1, Fs1, s1, (PR.bd h1).imp ?_⟩
  rintro v2 H2 ⟨o2, ρ2, Z2, Fs2, s2, ho2, -, st2, h2⟩
  have hx := OIs.stp ho s1 st2
  cases e : lk ρ2 o with
  | none => simp only [e, Option.bind_none] at h2; exact h2.elim
  | some x =>
    cases e' : lk ρ2 o2 with
    | none => simp only [e, e', Option.bind_some, Option.bind_none] at h2; exact h2.elim
    | some y =>
      simp only [e, e', Option.bind_some] at h2
      split at h2
      · rename_i e2
        refine u Z2 H2 _ x y v v2 true (OIs.rx hx s2 e) (OIs.rx ho2 s2 e') e2 ⟨true, rfl, ?_⟩
        rw [if_pos rfl]
        refine ⟨Z2, ρ2, Fs2, s2, (PR.bd h2).imp ?_⟩
        rintro v3 H3 ⟨o3, ρ3, Z3, Fs3, s3, ho3, -, st3, h3⟩
        have hy := OIs.stp ho2 s2 st3
        cases e3 : lk ρ3 o2 with
        | none => simp only [e3, Option.bind_none, ret_none] at h3; exact h3.elim
        | some y =>
          cases e4 : lk ρ3 o3 with
          | none => simp only [e3, e4, Option.bind_some, Option.bind_none, ret_none] at h3; exact h3.elim
          | some z =>
            simp only [e3, e4, Option.bind_some] at h3
            cases e5 : f' y z with
            | none => rw [e5] at h3; exact h3.elim
            | some w =>
              rw [e5] at h3
              exact u' E σ Z3 H3 ρ3 Fs3 Q y z v2 v3 w s3 (OIs.rx hy s3 e3) (OIs.rx ho3 s3 e4) e5 h3
      · rename_i e2
        refine u Z2 H2 _ x y v v2 false (OIs.rx hx s2 e) (OIs.rx ho2 s2 e') e2 ⟨false, rfl, ?_⟩
        rw [if_neg Bool.false_ne_true]
        exact PR.fin h2 s2 (.d (.bl false))
      · exact h2.elim
/-- a < b < c and its like, of ints -/
theorem chain_marks {o o' : CmpOp} {b c : Expr} (h : o' ≠ .In := by decide) (h2 : o' ≠ .NotIn := by decide) : lastMarks [o, o'] [b, c] = false := by
  show behindInMarks o' c = false
  exact nomark c h h2
theorem ke_lele {sa sb sc' : SO} (ha : KO pm ct a sa) (hb : KO pm ct b sb) (hc : KO pm ct c sc') : KE pm ct (.Compare a [.LtE, .LtE] [b, c] pos) (cm2 cLe cLe sa sb sc') :=
  ⟨fun X E xo t => (pe_chain op_le op_le (ha.go X E xo t) (hb.go X E xo t) (hc.go X E xo t) chain_marks).imp fun σ H Q h => cm2_read (ful_Ib _) (ful_I _) h⟩
theorem kt_lele {sa sb sc' : SO} (ha : KO pm ct a sa) (hb : KO pm ct b sb) (hc : KO pm ct c sc') : KT pm ct (.Compare a [.LtE, .LtE] [b, c] pos) (tst (cm2 cLe cLe sa sb sc')) :=
  ⟨fun X E xo t => (pt_chain op_le op_le (ha.go X E xo t) (hb.go X E xo t) (hc.go X E xo t) chain_marks).imp fun σ H Q h => cm2_read (ful_Ib _) (ful_I _) (tst_read h)⟩
theorem ke_lelt {sa sb sc' : SO} (ha : KO pm ct a sa) (hb : KO pm ct b sb) (hc : KO pm ct c sc') : KE pm ct (.Compare a [.LtE, .Lt] [b, c] pos) (cm2 cLe cLt sa sb sc') :=
  ⟨fun X E xo t => (pe_chain op_le op_lt (ha.go X E xo t) (hb.go X E xo t) (hc.go X E xo t) chain_marks).imp fun σ H Q h => cm2_read (ful_Ib _) (ful_I _) h⟩
theorem kt_lelt {sa sb sc' : SO} (ha : KO pm ct a sa) (hb : KO pm ct b sb) (hc : KO pm ct c sc') : KT pm ct (.Compare a [.LtE, .Lt] [b, c] pos) (tst (cm2 cLe cLt sa sb sc')) :=
  ⟨fun X E xo t => (pt_chain op_le op_lt (ha.go X E xo t) (hb.go X E xo t) (hc.go X E xo t) chain_marks).imp fun σ H Q h => cm2_read (ful_Ib _) (ful_I _) (tst_read h)⟩

/-! ### minus -/
def negD : PyData → Option W
  | .int i => imm (.int (-i))
  | _ => none
theorem ful_neg : Ful1 pm.g (rU fun i => .int (-i)) negD := by
  intro E σ Z H ρ Fs Q x v w s rx e p
  unfold negD at e
  split at e
  · rw [rx.int_]
    exact ⟨_, rfl, immFin s p e (.int _)⟩
  · cases e
theorem ke_neg {sa : SO} (ha : KO pm ct a sa) : KE pm ct (.UnaryOp .USub a pos) (op1 negD sa) :=
  ⟨fun X E xo t => (pe_un un_neg (ha.go X E xo t)).imp fun σ H Q h => op1_read ful_neg h⟩

/-! ### several, from the left -/
def nilA : SA := fun ρ => .ok [] ρ
def consA (a : SO) (r : SA) : SA := fun ρ => (a ρ).bd fun o ρ1 => (r ρ1).bd fun os ρ2 => .ok (o :: os) ρ2
def starB : Expr → Bool
  | .Starred .. => false
  | _ => true
theorem star_ok {e : Expr} {es : List Expr} {env : Env} (h : starB e = true) : starEach (e :: es) env = (false, eval e env) :: starEach es env := by
  cases e <;> first | rfl | cases h
theorem ka_nil : KA pm ct [] nilA := ⟨fun X E xo t => pa_nil.imp fun σ H Q ⟨Z, ρ, Fs, ok, h⟩ => PR0.fin h ok .nil⟩
theorem ka_cons {e : Expr} {es : List Expr} {a : SO} {r : SA} (ha : KO pm ct e a) (hr : KA pm ct es r) (hs : starB e = true) : KA pm ct (e :: es) (consA a r) := by
  refine ⟨fun X E xo t => (pa_cons (ha.go X E xo t) (hr.go X E xo t) (star_ok hs)).imp fun σ H Q ⟨Z, ρ, Fs, ok, h⟩ => ⟨Z, ρ, Fs, ok, (PR0.bd h).imp ?_⟩⟩
  rintro v H1 ⟨o, ρ1, Z1, Fs1, s1, ho, -, st, h1⟩
  refine ⟨Z1, ρ1, Fs1, s1, (PR0.bd h1).imp ?_⟩
  rintro vs H2 ⟨os, ρ2, Z2, Fs2, s2, hos, -, st2, h2⟩
  exact PR0.fin h2 s2 (.cons (OIs.stp ho s1 st2) hos)
/-- the frozen ones of a list of operands -/
def dsO : List O → Option (List PyData)
  | [] => some []
  | .v x :: os => (dsO os).map (x :: ·)
  | .s _ :: _ => none
def tupE (as : SA) : SD := fun ρ => (as ρ).bd fun os ρ1 => match dsO os with
  | some xs => if xs.length ≤ 16777216 then .ok (.tuple xs) ρ1 else .no
  | none => .no
def lstE (as : SA) : SE := fun ρ => (as ρ).bd fun os ρ1 => match dsO os with
  | some xs => if xs.length ≤ 16777216 then .ok (.fl xs) ρ1 else .no
  | none => .no
theorem dsO_ok {σ : L2.St} {Z : Addr → Prop} {H : Hp} : ∀ {os : List O} {vs : List V} {xs : List PyData}, OsAre pm.g σ Z H os vs → dsO os = some xs → RDs pm.g.K Z H xs vs
  | _, _, _, .nil, e => by cases e; exact .nil
  | _, _, _, .cons (o := .v x) (os := os) h r, e => by
    have e' : (dsO os).map (x :: ·) = some _ := e
    cases q : dsO os with
    | none => rw [q] at e'; cases e'
    | some ys =>
      rw [q] at e'
      cases e'
      exact .cons h (dsO_ok r q)
  | _, _, _, .cons (o := .s i) h r, e => by cases e
theorem kd_tup {es : List Expr} {as : SA} {k : Nat} (ha : KA pm ct es as) : KD pm ct (.Tuple es k pos) (tupE as) := by
  refine ⟨fun X E xo t => (pe_tup (ha.go X E xo t)).imp fun σ H Q ⟨Z, ρ, Fs, ok, h⟩ => ⟨Z, ρ, Fs, ok, (PR0.bd h).imp ?_⟩⟩
  rintro vs H1 ⟨os, ρ1, Z1, Fs1, s1, hos, -, st, h1⟩
  cases e : dsO os with
  | none => rw [e] at h1; exact h1.elim
  | some xs =>
    rw [e] at h1
    have r := dsO_ok hos e
    simp only at h1
    split at h1
    · rename_i hz
      refine ⟨by rw [r.len, sizeLine_eq]; exact hz, fun p hp => PR0.new h1 s1 hp ?_⟩
      exact .tup ⟨SqT.of upd_same, .inl (.inr rfl)⟩ (r.keep (fun _ z => .inl z) fun a o _ q => by rw [upd_ne (ne_of_none q hp)]; exact q)
    · exact h1.elim
theorem ke_lst {es : List Expr} {as : SA} (ha : KA pm ct es as) : KE pm ct (.List es pos) (lstE as) := by
  refine ⟨fun X E xo t => (pe_lst (ha.go X E xo t)).imp fun σ H Q ⟨Z, ρ, Fs, ok, h⟩ => ⟨Z, ρ, Fs, ok, (PR.bd h).imp ?_⟩⟩
  rintro vs H1 ⟨os, ρ1, Z1, Fs1, s1, hos, -, st, h1⟩
  cases e : dsO os with
  | none => rw [e] at h1; exact h1.elim
  | some xs =>
    rw [e] at h1
    have r := dsO_ok hos e
    simp only at h1
    split at h1
    · rename_i hz
      exact ⟨by rw [r.len, sizeLine_eq]; exact hz, fun p hp => PR.newL h1 s1 hp r⟩
    · exact h1.elim
end
end Ev
set_option Elab.async false
set_option maxRecDepth 100000
set_option maxHeartbeats 4000000
/-! Ev7: subscripts, slices, built-in calls and methods. -/
namespace Ev
open PySem PySem.Spec PyProof.Rows L2

/-! ### items -/
def ixD : PyData → PyData → Option W
  | .list xs, .int i => (atI xs i).map .d
  | .tuple xs, .int i => (atI xs i).map .d
  | .str z, .int i => if z.length ≤ 16777216 then (atI z.cps.toList i).map fun c => .d (.str ⟨#[c]⟩) else none
  | _, _ => none
def plainIx : Expr → Bool
  | .Slice .. => false
  | _ => true
theorem plainIx_ok {b : Expr} (h : plainIx b = true) : PlainIx b := by
  intro o i
  cases b <;> first | rfl | cases h
section
variable {g : G0}
theorem RDs.atI {K : PySem.W.Frag} {Z : Addr → Prop} {H : Hp} {xs : List PyData} {vs : List V} {i : Int} {x : PyData} (r : RDs K Z H xs vs) (e : L2.atI xs i = some x) : ∃ v, L2.atI vs i = some v ∧ RD K Z H x v := by
  unfold L2.atI at e ⊢
  rw [r.len]
  cases q : ixN xs.length i with
  | none => rw [q] at e; cases e
  | some j =>
    rw [q] at e
    exact r.get e
theorem ful_ix : Ful2 g (rIx g.K) ixD := by
  intro E σ Z H ρ Fs Q x y v u w s rx ry e p
  unfold ixD at e
  split at e
  · rename_i xs i
    cases q : L2.atI xs i with
    | none => rw [q] at e; cases e
    | some z =>
      rw [q] at e
      cases e
      obtain ⟨a, vs, rfl, h1, r1⟩ := rx.list_
      obtain ⟨v', h2, h3⟩ := r1.atI q
      rw [ry.int_]
      exact .inl ⟨a, vs, i, v', rfl, rfl, .inl h1, h2, PR.fin p s (.d h3)⟩
  · rename_i xs i
    cases q : L2.atI xs i with
    | none => rw [q] at e; cases e
    | some z =>
      rw [q] at e
      cases e
      obtain ⟨a, vs, rfl, h1, r1⟩ := rx.tup_
      obtain ⟨v', h2, h3⟩ := r1.atI q
      rw [ry.int_]
      exact .inr (.inl ⟨a, vs, i, v', rfl, rfl, h1, h2, PR.fin p s (.d h3)⟩)
  · rename_i z i
    split at e
    · rename_i hz
      cases q : L2.atI z.cps.toList i with
      | none => rw [q] at e; cases e
      | some c =>
        rw [q] at e
        cases e
        rw [rx.str_, ry.int_]
        exact .inr (.inr ⟨z, i, c, rfl, rfl, by rw [sizeLine_eq]; exact hz, q, PR.fin p s (.d (.str _))⟩)
    · cases e
  · cases e
end
section
variable {pm : Pm} {ct : Ct} {a b c : Expr} {sa sb : SO} {pos : Pos}
theorem ke_ix (ha : KO pm ct a sa) (hb : KO pm ct b sb) (hp : plainIx b = true) : KE pm ct (.Subscript a b pos) (op2 ixD sa sb) :=
  ⟨fun X E xo t => (pe_ix ix_seq (ha.go X E xo t) (hb.go X E xo t) (plainIx_ok hp)).imp fun σ H Q h => by rw [xo.hK]; exact op2_read ful_ix h⟩

/-! ### slices -/
abbrev SP' := Sl → R (Option Int)
def tP (g : G0) (E : WX) (s : SP') : TO := fun σ H Q => ∃ Z ρ Fs, SOk g.K Z H ρ σ Fs ∧ PR0 g E σ (fun _ _ a b => a = b) (s ρ) Z (Tot Fs) H Q
structure KP (pm : Pm) (ct : Ct) (e : Option Expr) (s : SP') : Prop where
  go : ∀ X E, XOk pm ct X → Takes X E → PO X e (tP pm.g E s)
theorem _root_.L2.PO.imp {X : Cx} {e : Option Expr} {t t' : TO} (h : PO X e t) (q : ∀ σ H Q, t' σ H Q → t σ H Q) : PO X e t' := ⟨fun pins s σ H Q I r => h.run pins s σ H Q I (q σ H Q r)⟩
def noP : SP' := fun ρ => .ok none ρ
def soP (s : SD) : SP' := fun ρ => (s ρ).bd fun x ρ1 => match x with
  | .int i => .ok (some i) ρ1
  | _ => .no
theorem kp_none : KP pm ct none noP := ⟨fun X E xo t => po_none.imp fun σ H Q ⟨Z, ρ, Fs, ok, h⟩ => PR0.fin h ok rfl⟩
theorem int_of {K : PySem.W.Frag} {Z : Addr → Prop} {H : Hp} {b : Int} {v : V} (h : RD K Z H (.int b) v) : v = .int b := by
  cases h
  rfl
theorem kp_some {s : SD} (h : KD pm ct a s) : KP pm ct (some a) (soP s) := by
  refine ⟨fun X E xo t => (po_some (h.go X E xo t)).imp fun σ H Q ⟨Z, ρ, Fs, ok, h⟩ => ⟨Z, ρ, Fs, ok, (PR0.bd h).imp ?_⟩⟩
  rintro v H1 ⟨x, ρ1, Z1, Fs1, s1, hx, -, st, h1⟩
  split at h1
  · rename_i i
    exact ⟨i, int_of hx, PR0.fin h1 s1 rfl⟩
  · exact h1.elim
def cutD {α : Type} (xs : List α) (lo hi : Option Int) : List α := (xs.drop (HT.sIx xs.length 0 lo)).take (HT.sIx xs.length xs.length hi - HT.sIx xs.length 0 lo)
def slD (lo hi : Option Int) : PyData → Option W
  | .list xs => some (.fl (cutD xs lo hi))
  | .str z => if z.length ≤ 16777216 then imm (.str (cutS z lo hi)) else none
  | _ => none
def slE (a : SO) (lo hi : SP') : SE := fun ρ => (a ρ).bd fun o ρ1 => (lo ρ1).bd fun l ρ2 => (hi ρ2).bd fun h ρ3 => ret ((lk ρ3 o).bind (slD l h)) ρ3
theorem RDs.cut {K : PySem.W.Frag} {Z : Addr → Prop} {H : Hp} {xs : List PyData} {vs : List V} (r : RDs K Z H xs vs) (lo hi : Option Int) : RDs K Z H (cutD xs lo hi) (cutV vs lo hi) := by
  unfold cutD cutV
  rw [r.len]
  exact (r.drop _).take _
theorem ke_sl {lo hi : Option Expr} {sl sh : SP'} {p2 : Pos} (ha : KO pm ct a sa) (hl : KP pm ct lo sl) (hh : KP pm ct hi sh) : KE pm ct (.Subscript a (.Slice lo hi none p2) pos) (slE sa sl sh) := by
  refine ⟨fun X E xo t => (pe_slice (SlR.or sl_list sl_str) (ha.go X E xo t) (hl.go X E xo t) (hh.go X E xo t)).imp fun σ H Q ⟨Z, ρ, Fs, ok, h⟩ => ⟨Z, ρ, Fs, ok, (PR.bd h).imp ?_⟩⟩
  rintro v H1 ⟨o, ρ1, Z1, Fs1, s1, ho, -, st, h1⟩
  refine ⟨Z1, ρ1, Fs1, s1, (PR.bd h1).imp ?_⟩
  rintro l H2 ⟨l', ρ2, Z2, Fs2, s2, hl, -, st2, h2⟩
  refine ⟨Z2, ρ2, Fs2, s2, (PR.bd h2).imp ?_⟩
  rintro u H3 ⟨u', ρ3, Z3, Fs3, s3, hu, -, st3, h3⟩
  have el : l' = l := hl
  have eu : u' = u := hu
  subst el eu
  have hx := OIs.stp (OIs.stp ho s1 st2) s2 st3
  cases e : lk ρ3 o with
  | none => simp only [e, Option.bind_none, ret_none] at h3; exact h3.elim
  | some x =>
    simp only [e, Option.bind_some] at h3
    have rx := OIs.rx hx s3 e
    rw [xo.hK]
    unfold slD at h3
    split at h3
    · obtain ⟨a, vs, rfl, r1, r2⟩ := rx.list_
      exact .inl ⟨a, vs, rfl, .inl r1, fun p hp => PR.newL h3 s3 hp (r2.cut _ _)⟩
    · split at h3
      · rename_i hz
        rw [rx.str_]
        exact .inr ⟨_, rfl, by rw [sizeLine_eq]; exact hz, PR.fin h3 s3 (.d (.str _))⟩
      · exact h3.elim
    · exact h3.elim

/-! ### calls of built-ins -/
theorem stars_ok {es : List Expr} {env : Env} {pos : Pos} (h : es.all starB = true) : (backTo pos (starEach es env)).any (·.1) = false := by
  induction es with
  | nil => rfl
  | cons e es ih =>
    simp only [List.all_cons, Bool.and_eq_true] at h
    rw [star_ok h.1]
    show (false || (backTo pos (starEach es env)).any (·.1)) = false
    rw [ih h.2] <;> rfl
def freeNames : List Str := ["abs", "all", "any", "bool", "enumerate", "int", "isinstance", "len", "list", "max", "min", "ord", "range", "repr", "sorted", "str", "sum", "tuple", "zip"]
/-- a built-in function by its name -/
theorem ke_bi {x : Str} {id : String} {r : List V → Hp → VK → Prop} {f : List PyData → Option W} {e : Expr} {es : List Expr} {as : SA} {p : Pos} (hv : bootBuiltins x = some (.builtin id)) (hx : x ∈ freeNames) (hc : ∀ X, XOk pm ct X → CallR X (.builtin id) r) (u : Fuln pm.g r f)
    (ha : KA pm ct (e :: es) as) (hg : glB ct.sc x = true) (hs : (e :: es).all starB = true) (hn : x ≠ "__name__" := by decide) : KE pm ct (.Call (.Name x p) (e :: es) [] pos) (opn f as) := by
  refine ⟨fun X E xo t => ?_⟩
  obtain ⟨h4, h5⟩ := glB_ok hg xo.sc
  simp only [List.all_cons, Bool.and_eq_true] at hs
  exact (pe_callB (hc X xo) h4 (xo.free x hx) hv (ha.go X E xo t) hn h5 (star_ok hs.1) (stars_ok hs.2)).imp fun σ H Q h => opn_read u h
theorem ke_ty {x : Str} {T : String} {r : List V → Hp → VK → Prop} {f : List PyData → Option W} {e : Expr} {es : List Expr} {as : SA} {p : Pos} (hv : bootBuiltins x = some (.type T)) (hx : x ∈ freeNames) (hc : ∀ X, XOk pm ct X → CallR X (.type T) r) (u : Fuln pm.g r f)
    (ha : KA pm ct (e :: es) as) (hg : glB ct.sc x = true) (hs : (e :: es).all starB = true) (hn : x ≠ "__name__" := by decide) : KE pm ct (.Call (.Name x p) (e :: es) [] pos) (opn f as) := by
  refine ⟨fun X E xo t => ?_⟩
  obtain ⟨h4, h5⟩ := glB_ok hg xo.sc
  simp only [List.all_cons, Bool.and_eq_true] at hs
  exact (pe_callTy (hc X xo) h4 (xo.free x hx) hv (ha.go X E xo t) hn h5 (star_ok hs.1) (stars_ok hs.2)).imp fun σ H Q h => opn_read u h
end
/-! ### which -/
section
variable {g : G0}
theorem RXs.one {K : PySem.W.Frag} {Z : Addr → Prop} {H : Hp} {x : PyData} {vs : List V} (h : RXs K Z H [x] vs) : ∃ v, vs = [v] ∧ RX K Z H x v := by
  cases h with
  | cons a r => cases r; exact ⟨_, rfl, a⟩
theorem RXs.two {K : PySem.W.Frag} {Z : Addr → Prop} {H : Hp} {x y : PyData} {vs : List V} (h : RXs K Z H [x, y] vs) : ∃ v u, vs = [v, u] ∧ RX K Z H x v ∧ RX K Z H y u := by
  cases h with
  | cons a r =>
    obtain ⟨u, rfl, b⟩ := r.one
    exact ⟨_, _, rfl, a, b⟩
/-- len -/
def lenD : List PyData → Option W
  | [.list xs] => imm (.int xs.length)
  | [.tuple xs] => imm (.int xs.length)
  | [.str z] => if z.length ≤ 16777216 then imm (.int z.length) else none
  | _ => none
abbrev rLn (K : PySem.W.Frag) : List V → Hp → VK → Prop := fun xs H Q => ∃ x n, xs = [x] ∧ LenV K x H n ∧ Q (.int n) H
theorem ful_len : Fuln g (rLn g.K) lenD := by
  intro E σ Z H ρ Fs Q xs vs w s rs e p
  unfold lenD at e
  split at e
  · obtain ⟨v, rfl, r⟩ := rs.one
    obtain ⟨a, us, rfl, h1, r1⟩ := r.list_
    exact ⟨_, us.length, rfl, .inl ⟨us, .inl h1, rfl⟩, immFin s p e (by rw [r1.len]; exact .int _)⟩
  · obtain ⟨v, rfl, r⟩ := rs.one
    obtain ⟨a, us, rfl, h1, r1⟩ := r.tup_
    exact ⟨_, us.length, rfl, .inr ⟨us, h1, rfl⟩, immFin s p e (by rw [r1.len]; exact .int _)⟩
  · split at e
    · rename_i hz
      obtain ⟨v, rfl, r⟩ := rs.one
      rw [r.str_]
      exact ⟨_, _, rfl, ⟨by rw [sizeLine_eq]; exact hz, rfl⟩, immFin s p e (.int _)⟩
    · cases e
  · cases e
def absD : List PyData → Option W
  | [.int i] => imm (.int (if i < 0 then -i else i))
  | _ => none
theorem ful_abs : Fuln g (fun xs H Q => ∃ i, xs = [.int i] ∧ Q (.int (if i < 0 then -i else i)) H) absD := by
  intro E σ Z H ρ Fs Q xs vs w s rs e p
  unfold absD at e
  split at e
  · obtain ⟨v, rfl, r⟩ := rs.one
    rw [r.int_]
    exact ⟨_, rfl, immFin s p e (.int _)⟩
  · cases e
def maxD : List PyData → Option W
  | [.int i, .int j] => imm (.int (if j > i then j else i))
  | _ => none
theorem ful_max : Fuln g (fun xs H Q => ∃ i j, xs = [.int i, .int j] ∧ Q (.int (if j > i then j else i)) H) maxD := by
  intro E σ Z H ρ Fs Q xs vs w s rs e p
  unfold maxD at e
  split at e
  · obtain ⟨v, u, rfl, r1, r2⟩ := rs.two
    rw [r1.int_, r2.int_]
    exact ⟨_, _, rfl, immFin s p e (.int _)⟩
  · cases e
def minD : List PyData → Option W
  | [.int i, .int j] => imm (.int (if j < i then j else i))
  | _ => none
theorem ful_min : Fuln g (fun xs H Q => ∃ i j, xs = [.int i, .int j] ∧ Q (.int (if j < i then j else i)) H) minD := by
  intro E σ Z H ρ Fs Q xs vs w s rs e p
  unfold minD at e
  split at e
  · obtain ⟨v, u, rfl, r1, r2⟩ := rs.two
    rw [r1.int_, r2.int_]
    exact ⟨_, _, rfl, immFin s p e (.int _)⟩
  · cases e
/-- int(..) -/
def intD : List PyData → Option W
  | [.int i] => imm (.int i)
  | [.bool b] => imm (.int (if b then 1 else 0))
  | [.str z] => if z.length ≤ 640 then (intText? z).bind fun n => imm (.int n) else none
  | _ => none
abbrev rInt : List V → Hp → VK → Prop := fun xs H Q => ((∃ i, xs = [.int i] ∧ Q (.int i) H) ∨ ∃ k, xs = [.bl k] ∧ Q (.int (if k then 1 else 0)) H) ∨ ∃ a n, xs = [.str a] ∧ PySem.intText? a = some n ∧ a.length ≤ 640 ∧ Q (.int n) H
theorem ful_int : Fuln g rInt intD := by
  intro E σ Z H ρ Fs Q xs vs w s rs e p
  unfold intD at e
  split at e
  · obtain ⟨v, rfl, r⟩ := rs.one
    rw [r.int_]
    exact .inl (.inl ⟨_, rfl, immFin s p e (.int _)⟩)
  · obtain ⟨v, rfl, r⟩ := rs.one
    rw [r.bool_]
    exact .inl (.inr ⟨_, rfl, immFin s p e (.int _)⟩)
  · rename_i z
    split at e
    · rename_i hz
      cases q : intText? z with
      | none => rw [q] at e; cases e
      | some n =>
        rw [q] at e
        obtain ⟨v, rfl, r⟩ := rs.one
        rw [r.str_]
        exact .inr ⟨_, n, rfl, q, hz, immFin s p e (.int _)⟩
    · cases e
  · cases e
/-- str(..) -/
def strD : List PyData → Option W
  | [.int i] => if i.natAbs.log2 < 1920 then imm (.str (toString i)) else none
  | [.str z] => imm (.str z)
  | _ => none
abbrev rStr : List V → Hp → VK → Prop := fun xs H Q => (∃ i, xs = [.int i] ∧ i.natAbs.log2 < 1920 ∧ Q (.str (toString i)) H) ∨ ∃ a, xs = [.str a] ∧ Q (.str a) H
theorem ful_str : Fuln g rStr strD := by
  intro E σ Z H ρ Fs Q xs vs w s rs e p
  unfold strD at e
  split at e
  · split at e
    · rename_i hz
      obtain ⟨v, rfl, r⟩ := rs.one
      rw [r.int_]
      exact .inl ⟨_, rfl, hz, immFin s p e (.str _)⟩
    · cases e
  · obtain ⟨v, rfl, r⟩ := rs.one
    rw [r.str_]
    exact .inr ⟨_, rfl, immFin s p e (.str _)⟩
  · cases e
def ordD : List PyData → Option W
  | [.str z] => if z.length = 1 then imm (.int (z.cps.getD 0 0 : Nat)) else none
  | _ => none
theorem ful_ord : Fuln g (fun xs H Q => ∃ x, xs = [.str x] ∧ x.length = 1 ∧ Q (.int (x.cps.getD 0 0 : Nat)) H) ordD := by
  intro E σ Z H ρ Fs Q xs vs w s rs e p
  unfold ordD at e
  split at e
  · split at e
    · rename_i hz
      obtain ⟨v, rfl, r⟩ := rs.one
      rw [r.str_]
      exact ⟨_, rfl, hz, immFin s p e (.int _)⟩
    · cases e
  · cases e
/-- lists of truth values, of intsD -/
def boolsD : List PyData → Option (List Bool)
  | [] => some []
  | .bool b :: r => (boolsD r).map (b :: ·)
  | _ :: _ => none
def intsD : List PyData → Option (List Int)
  | [] => some []
  | .int b :: r => (intsD r).map (b :: ·)
  | _ :: _ => none
theorem bools_ok {K : PySem.W.Frag} {Z : Addr → Prop} {H : Hp} : ∀ {xs : List PyData} {vs : List V} {bs : List Bool}, RDs K Z H xs vs → boolsD xs = some bs → vs = bs.map V.bl
  | _, _, _, .nil, e => by cases e; rfl
  | .bool b :: r, _, _, .cons h t, e => by
    have e' : (boolsD r).map (b :: ·) = some _ := e
    cases q : boolsD r with
    | none => rw [q] at e'; cases e'
    | some cs =>
      rw [q] at e'
      cases e'
      cases h
      rw [bools_ok t q]
      rfl
  | .none :: _, _, _, .cons _ _, e => by cases e
  | .int _ :: _, _, _, .cons _ _, e => by cases e
  | .str _ :: _, _, _, .cons _ _, e => by cases e
  | .list _ :: _, _, _, .cons _ _, e => by cases e
  | .tuple _ :: _, _, _, .cons _ _, e => by cases e
  | .dict _ :: _, _, _, .cons _ _, e => by cases e
theorem ints_ok {K : PySem.W.Frag} {Z : Addr → Prop} {H : Hp} : ∀ {xs : List PyData} {vs : List V} {bs : List Int}, RDs K Z H xs vs → intsD xs = some bs → vs = bs.map V.int
  | _, _, _, .nil, e => by cases e; rfl
  | .int b :: r, _, _, .cons h t, e => by
    have e' : (intsD r).map (b :: ·) = some _ := e
    cases q : intsD r with
    | none => rw [q] at e'; cases e'
    | some cs =>
      rw [q] at e'
      cases e'
      cases h
      rw [ints_ok t q]
      rfl
  | .none :: _, _, _, .cons _ _, e => by cases e
  | .bool _ :: _, _, _, .cons _ _, e => by cases e
  | .str _ :: _, _, _, .cons _ _, e => by cases e
  | .list _ :: _, _, _, .cons _ _, e => by cases e
  | .tuple _ :: _, _, _, .cons _ _, e => by cases e
  | .dict _ :: _, _, _, .cons _ _, e => by cases e
def allD : List PyData → Option W
  | [.list xs] => (boolsD xs).bind fun bs => imm (.bool (bs.all id))
  | _ => none
def anyD : List PyData → Option W
  | [.list xs] => (boolsD xs).bind fun bs => imm (.bool (bs.any id))
  | _ => none
def sumD : List PyData → Option W
  | [.list xs] => (intsD xs).bind fun ns => imm (.int ns.sum)
  | _ => none
theorem ful_all : Fuln g (rAll g.K) allD := by
  intro E σ Z H ρ Fs Q xs vs w s rs e p
  unfold allD at e
  split at e
  · rename_i xs
    cases q : boolsD xs with
    | none => rw [q] at e; cases e
    | some bs =>
      rw [q] at e
      obtain ⟨v, rfl, r⟩ := rs.one
      obtain ⟨a, us, rfl, h1, r1⟩ := r.list_
      exact ⟨a, bs, rfl, .inl (by rw [← bools_ok r1 q]; exact h1), immFin s p e (.bl _)⟩
  · cases e
theorem ful_any : Fuln g (rAny g.K) anyD := by
  intro E σ Z H ρ Fs Q xs vs w s rs e p
  unfold anyD at e
  split at e
  · rename_i xs
    cases q : boolsD xs with
    | none => rw [q] at e; cases e
    | some bs =>
      rw [q] at e
      obtain ⟨v, rfl, r⟩ := rs.one
      obtain ⟨a, us, rfl, h1, r1⟩ := r.list_
      exact ⟨a, bs, rfl, .inl (by rw [← bools_ok r1 q]; exact h1), immFin s p e (.bl _)⟩
  · cases e
theorem ful_sum : Fuln g (rSum g.K) sumD := by
  intro E σ Z H ρ Fs Q xs vs w s rs e p
  unfold sumD at e
  split at e
  · rename_i xs
    cases q : intsD xs with
    | none => rw [q] at e; cases e
    | some bs =>
      rw [q] at e
      obtain ⟨v, rfl, r⟩ := rs.one
      obtain ⟨a, us, rfl, h1, r1⟩ := r.list_
      exact ⟨a, bs, rfl, .inl (by rw [← ints_ok r1 q]; exact h1), immFin s p e (.int _)⟩
  · cases e
/-- list(..), a copy -/
def lisD : List PyData → Option W
  | [.list xs] => some (.fl xs)
  | [.tuple xs] => some (.fl xs)
  | _ => none
abbrev rLs (K : PySem.W.Frag) : List V → Hp → VK → Prop := fun xs H Q => ∃ p ys, xs = [.ref p] ∧ (SqL K H p ys ∨ SqT K H p ys) ∧ ∀ l, H l = none → Q (.ref l) (upd H l (.lst ys))
theorem ful_list : Fuln g (rLs g.K) lisD := by
  intro E σ Z H ρ Fs Q xs vs w s rs e p
  unfold lisD at e
  split at e
  · cases e
    obtain ⟨v, rfl, r⟩ := rs.one
    obtain ⟨a, us, rfl, h1, r1⟩ := r.list_
    exact ⟨a, us, rfl, .inl (.inl h1), fun l hl => PR.newL p s hl r1⟩
  · cases e
    obtain ⟨v, rfl, r⟩ := rs.one
    obtain ⟨a, us, rfl, h1, r1⟩ := r.tup_
    exact ⟨a, us, rfl, .inr h1, fun l hl => PR.newL p s hl r1⟩
  · cases e
/-- repr(..) -/
def repD : List PyData → Option W
  | [x] => if x.showable && !x.hasDict && decide (x.depth ≤ 60) && decide (x.shown.length ≤ 16777216) then imm (.str x.shown) else none
  | _ => none
abbrev rRep (K : PySem.W.Frag) : List V → Hp → VK → Prop := fun xs H Q => ∃ v d, xs = [v] ∧ Dp K H v d ∧ d.showable = true ∧ d.hasDict = false ∧ d.depth ≤ 60 ∧ d.shown.length ≤ sizeLine ∧ Q (.str d.shown) H
theorem call_repr {X : Cx} (hg : X.A.guards = some []) (hu : X.A.units + 64 < cLine) : CallR X (.builtin "repr") (rRep X.K) := by
  intro pins s σ H xs us Q I r ⟨v, d, ex, hd, h1, h2, h3, h4, q⟩
  subst ex
  obtain ⟨u, eu, rv⟩ := vals1 r
  subst eu
  obtain ⟨as, rd⟩ := Dp.reads I d v u hd rv
  have big : ∀ a, u = .ref a → wpAny (model X.prog X.w) X.A (call (.builtin "repr") [u]) (EP X pins σ Q) X.xe s := by
    rintro a rfl
    exact repr_of_reads' rd h1 (fun z => by rw [h2] at z; cases z) hg (by omega) (fun _ _ e => e) (fun h' u tk hk => ⟨.str _, H, I.kept (t' := tk) hk, ⟨_, rfl⟩, q⟩) h4
  cases rd with
  | none => exact PySem.P.repr_of_none ⟨.str _, H, I.tok _, ⟨_, rfl⟩, q⟩
  | bool b =>
    refine PySem.P.repr_of_bool ⟨.str _, H, I.tok _, ⟨_, rfl⟩, ?_⟩
    cases b <;> exact q
  | int i t => exact PySem.P.repr_of_int (by simpa [PyData.showable] using h1) ⟨.str _, H, I.tok _, ⟨_, rfl⟩, q⟩
  | str z t => exact PySem.P.repr_of_str ⟨.str _, H, I.tok _, ⟨_, rfl⟩, q⟩ h4
  | list _ _ _ _ => exact big _ rfl
  | tuple _ _ _ _ => exact big _ rfl
  | dict _ _ _ _ _ => exact big _ rfl
mutual
theorem RD.dp2 {K : PySem.W.Frag} {Z : Addr → Prop} {H : Hp} : ∀ {x : PyData} {v : V}, RD K Z H x v → x.hasDict = false → Dp K H v x
  | _, _, .non, _ => .non
  | _, _, .bl b, _ => .bl b
  | _, _, .int i, _ => .int i
  | _, _, .str z, _ => .str z
  | _, _, .lst h r, c => .lst (.inl h.1) (RDs.dp2 r (by simpa [PyData.hasDict] using c))
  | _, _, .tup h r, c => .tup h.1 (RDs.dp2 r (by simpa [PyData.hasDict] using c))
  | _, _, .dct _ _, c => by simp [PyData.hasDict] at c
theorem RDs.dp2 {K : PySem.W.Frag} {Z : Addr → Prop} {H : Hp} : ∀ {xs : List PyData} {vs : List V}, RDs K Z H xs vs → PyData.hasDictAll xs = false → DpAll K H vs xs
  | _, _, .nil, _ => .nil
  | _, _, .cons h r, c => by
    simp only [PyData.hasDictAll, Bool.or_eq_false_iff] at c
    exact .cons (RD.dp2 h c.1) (RDs.dp2 r c.2)
end
theorem RD.dpS {K : PySem.W.Frag} {Z : Addr → Prop} {H : Hp} {x : PyData} {v : V} (h : RX K Z H x v) (c : x.hasDict = false) : Dp K H v x := by
  cases h with
  | lst h r => exact .lst (.inl h) (r.dp2 (by simpa [PyData.hasDict] using c))
  | tup h r => exact .tup h (r.dp2 (by simpa [PyData.hasDict] using c))
  | imm h _ _ => exact h.dp2 c
theorem ful_repr : Fuln g (rRep g.K) repD := by
  intro E σ Z H ρ Fs Q xs vs w s rs e p
  unfold repD at e
  split at e
  · rename_i x
    split at e
    · rename_i hc
      simp only [Bool.and_eq_true, Bool.not_eq_true', decide_eq_true_eq] at hc
      obtain ⟨⟨⟨h1, h2⟩, h3⟩, h4⟩ := hc
      obtain ⟨v, rfl, r⟩ := rs.one
      exact ⟨v, x, rfl, RD.dpS r h2, h1, h2, h3, by rw [sizeLine_eq]; exact h4, immFin s p e (.str _)⟩
    · cases e
  · cases e
end
end Ev
set_option Elab.async false
set_option maxRecDepth 100000
set_option maxHeartbeats 4000000
/-! Ev8: methods, isinstance, what changes a slot's list. -/
namespace Ev
open PySem PySem.Spec PyProof.Rows L2

def baseB : Expr → Bool
  | .Call (.Name _ _) [] [] _ => false
  | _ => true
theorem baseB_ok {o : Expr} {name : Str} {env : Env} {w : Sem Value} (h : baseB o = true) : attributeBase o name env w = w := by
  cases o with
  | Call f as ks p =>
    cases f with
    | Name x q =>
      cases as with
      | nil => cases ks with
        | nil => cases h
        | cons _ _ => rfl
      | cons _ _ => rfl
    | _ => rfl
  | _ => rfl
/-- a method of a text with one argument, with none -/
def smE (f : Str → PyData → Option W) (a b : SO) : SE := fun ρ => (a ρ).bd fun o ρ1 => match lk ρ1 o with
  | some (.str z) => (b ρ1).bd fun o2 ρ2 => ret ((lk ρ2 o2).bind (f z)) ρ2
  | _ => .no
def Fuls (g : G0) (r : V → List V → Hp → VK → Prop) (f : Str → PyData → Option W) : Prop := ∀ (E : WX) (σ : L2.St) (Z : Addr → Prop) (H : Hp) (ρ : Sl) (Fs : Nat → List Addr) (Q : VK) (z : Str) (y : PyData) (u : V) (w : W),
  SOk g.K Z H ρ σ Fs → RX g.K Z H y u → f z y = some w → PR g E σ (rW g) (.ok w ρ) Z (Tot Fs) H Q → r (.str z) [u] H Q
section
variable {pm : Pm} {ct : Ct} {a b c : Expr} {sa sb : SO} {pos : Pos}
theorem ke_m1 {id : String} {name : Str} {apos : Pos} {r : V → List V → Hp → VK → Prop} {f : Str → PyData → Option W} (slot : Slot "str" name id) (ty : typeOf (.builtin id) = pure (.type "method_descriptor")) (rule : ∀ X, XOk pm ct X → MtR X id r) (u : Fuls pm.g r f)
    (ha : KO pm ct a sa) (hb : KO pm ct b sb) (hs : starB b = true) (hbase : baseB a = true) (hl : (apos.endLine == pos.line) = true) : KE pm ct (.Call (.Attribute a name apos) [b] [] pos) (smE f sa sb) := by
  refine ⟨fun X E xo t => (pe_m1 slot ty (rule X xo) (ha.go X E xo t) (hb.go X E xo t) (star_ok hs) (baseB_ok hbase) hl).imp fun σ H Q ⟨Z, ρ, Fs, ok, h⟩ => ⟨Z, ρ, Fs, ok, (PR.bd h).imp ?_⟩⟩
  rintro v H1 ⟨o, ρ1, Z1, Fs1, s1, ho, -, st, h1⟩
  split at h1
  · rename_i z e
    have ev := (OIs.rx ho s1 e).str_
    subst ev
    refine ⟨⟨z, rfl⟩, Z1, ρ1, Fs1, s1, (PR.bd h1).imp ?_⟩
    rintro v2 H2 ⟨o2, ρ2, Z2, Fs2, s2, ho2, -, st2, h2⟩
    cases e2 : lk ρ2 o2 with
    | none => simp only [e2, Option.bind_none, ret_none] at h2; exact h2.elim
    | some y =>
      simp only [e2, Option.bind_some] at h2
      cases e3 : f z y with
      | none => rw [e3] at h2; exact h2.elim
      | some w =>
        rw [e3] at h2
        exact u E σ Z2 H2 ρ2 Fs2 Q z y v2 w s2 (OIs.rx ho2 s2 e2) e3 h2
  · exact h1.elim
def strsD : List PyData → Option (List Str)
  | [] => some []
  | .str b :: r => (strsD r).map (b :: ·)
  | _ :: _ => none
theorem strsD_ok {K : PySem.W.Frag} {Z : Addr → Prop} {H : Hp} : ∀ {xs : List PyData} {vs : List V} {bs : List Str}, RDs K Z H xs vs → strsD xs = some bs → vs = bs.map V.str
  | _, _, _, .nil, e => by cases e; rfl
  | .str b :: r, _, _, .cons h t, e => by
    have e' : (strsD r).map (b :: ·) = some _ := e
    cases q : strsD r with
    | none => rw [q] at e'; cases e'
    | some cs =>
      rw [q] at e'
      cases e'
      cases h
      rw [strsD_ok t q]
      rfl
  | .none :: _, _, _, .cons _ _, e => by cases e
  | .bool _ :: _, _, _, .cons _ _, e => by cases e
  | .int _ :: _, _, _, .cons _ _, e => by cases e
  | .list _ :: _, _, _, .cons _ _, e => by cases e
  | .tuple _ :: _, _, _, .cons _ _, e => by cases e
  | .dict _ :: _, _, _, .cons _ _, e => by cases e
theorem strs_rd {K : PySem.W.Frag} {Z : Addr → Prop} {H : Hp} : ∀ zs : List Str, RDs K Z H (zs.map .str) (zs.map .str)
  | [] => .nil
  | z :: zs => .cons (.str z) (strs_rd zs)
def splitD (z : Str) : PyData → Option W
  | .str y => if (y.length == 0) = false ∧ z.length + 2 ≤ 16777216 then some (.fl ((Txt.split z y).map .str)) else none
  | _ => none
theorem fuls_split : Fuls pm.g (fun x xs H Q => ∃ a b, x = .str a ∧ xs = [.str b] ∧ (b.length == 0) = false ∧ a.length + 2 ≤ sizeLine ∧ rNewStrs (Txt.split a b) H Q) splitD := by
  intro E σ Z H ρ Fs Q z y u w s ry e p
  unfold splitD at e
  split at e
  · split at e
    · rename_i hc
      cases e
      rw [ry.str_]
      refine ⟨_, _, rfl, rfl, hc.1, by rw [sizeLine_eq]; exact hc.2, fun q hq => PR.newL p s hq (strs_rd _)⟩
    · cases e
  · cases e
def joinD (z : Str) : PyData → Option W
  | .list xs => (strsD xs).bind fun ys => if (ys.map (·.length)).sum + ys.length * z.length ≤ 16777216 then imm (.str (Txt.join z ys)) else none
  | _ => none
abbrev rJn (K : PySem.W.Frag) : V → List V → Hp → VK → Prop := fun x xs H Q => ∃ a p, ∃ ys : List Str, x = .str a ∧ xs = [.ref p] ∧ (SqL K H p (ys.map V.str) ∨ SqT K H p (ys.map V.str)) ∧ (ys.map (·.length)).sum + ys.length * a.length ≤ 16777216 ∧ Q (.str (Txt.join a ys)) H
theorem fuls_join : Fuls pm.g (rJn pm.g.K) joinD := by
  intro E σ Z H ρ Fs Q z y u w s ry e p
  unfold joinD at e
  split at e
  · rename_i xs
    cases q : strsD xs with
    | none => rw [q] at e; cases e
    | some ys =>
      rw [q, Option.bind_some] at e
      split at e
      · rename_i hc
        obtain ⟨a, us, rfl, h1, r1⟩ := ry.list_
        exact ⟨_, a, ys, rfl, rfl, .inl (.inl (by rw [← strsD_ok r1 q]; exact h1)), hc, immFin s p e (.str _)⟩
      · cases e
  · cases e
theorem ke_split {apos : Pos} (ha : KO pm ct a sa) (hb : KO pm ct b sb) (hs : starB b = true) (hbase : baseB a = true) (hl : (apos.endLine == pos.line) = true) : KE pm ct (.Call (.Attribute a "split" apos) [b] [] pos) (smE splitD sa sb) :=
  ke_m1 F.slot_str_split F.type_str_split (fun _ _ => mt_split) fuls_split ha hb hs hbase hl
theorem ke_join {apos : Pos} (ha : KO pm ct a sa) (hb : KO pm ct b sb) (hs : starB b = true) (hbase : baseB a = true) (hl : (apos.endLine == pos.line) = true) : KE pm ct (.Call (.Attribute a "join" apos) [b] [] pos) (smE joinD sa sb) :=
  ke_m1 F.slot_str_join F.type_str_join (fun X xo => by have := @mt_join X; rw [xo.hK] at this; exact this) fuls_join ha hb hs hbase hl
/-- how many bits -/
def bitsD : PyData → Option W
  | .int i => imm (.int (Builtin.Int.intBits i : Nat))
  | _ => none
theorem ful_bits : Ful1 pm.g (fun x H1 Q => ∃ i, x = .int i ∧ Q (.int (Builtin.Int.intBits i : Nat)) H1) bitsD := by
  intro E σ Z H ρ Fs Q x v w s rx e p
  unfold bitsD at e
  split at e
  · rw [rx.int_]
    exact ⟨_, rfl, immFin s p e (.int _)⟩
  · cases e
theorem ke_bits {apos : Pos} (ha : KO pm ct a sa) (hbase : baseB a = true) (hl : (apos.endLine == pos.line) = true) : KE pm ct (.Call (.Attribute a "bit_length" apos) [] [] pos) (op1 bitsD sa) :=
  ⟨fun X E xo t => (pe_bits (ha.go X E xo t) (baseB_ok hbase) hl).imp fun σ H Q h => op1_read ful_bits h⟩

/-! ### isinstance of data -/
inductive Ty where
  | int | bool | str | list | tuple
def Ty.s : Ty → String
  | .int => "int" | .bool => "bool" | .str => "str" | .list => "list" | .tuple => "tuple"
def isTy : Ty → PyData → Bool
  | .int, .int _ => true
  | .int, .bool _ => true
  | .bool, .bool _ => true
  | .str, .str _ => true
  | .list, .list _ => true
  | .tuple, .tuple _ => true
  | _, _ => false
def tyS : PyData → String
  | .none => "NoneType" | .bool _ => "bool" | .int _ => "int" | .str _ => "str" | .list _ => "list" | .tuple _ => "tuple" | .dict _ => "dict"
theorem isTy_kit (T : Ty) (x : PyData) : kitB (tyS x) T.s = some (isTy T x) := by
  cases T <;> cases x <;> kernel_rfl
theorem Ty.boot (T : Ty) : bootBuiltins (Str.ofString T.s) = some (.type T.s) := by cases T <;> decide +kernel
theorem Ty.free (T : Ty) : Str.ofString T.s ∈ freeNames := by cases T <;> decide +kernel
theorem Ty.name (T : Ty) : Str.ofString T.s ≠ "__name__" := by cases T <;> decide +kernel
def isiD (T : Ty) (x : PyData) : Option W := bo (isTy T x)
theorem tyx_of {Z : Addr → Prop} {H : Hp} {x : PyData} {v : V} (h : RX pm.g.K Z H x v) : TyX pm.g.K H v (.type (tyS x)) := by
  have tupK : ∀ {a : Addr} {vs : List V}, SqT pm.g.K H a vs → TyX pm.g.K H (.ref a) (.type "tuple") := fun {a vs} q => by
    rcases q with (q | ⟨o, q⟩) | ⟨o, its, n, q, c, _⟩
    · exact .base (.tup q)
    · exact .fTuple q
    · exact .kTuple q c
  have lstK : ∀ {a : Addr} {vs : List V}, Rd H a (.lst vs) → TyX pm.g.K H (.ref a) (.type "list") := fun {a vs} q => by
    rcases q with q | ⟨o, q⟩
    · exact .base (.lst q)
    · exact .base (.frz q)
  cases h with
  | lst h _ => exact lstK h
  | tup h _ => exact tupK h
  | imm h _ _ =>
    cases h with
    | non => exact .base .non
    | bl b => exact .base (.bl b)
    | int i => exact .base (.int i)
    | str z => exact .base (.str z)
    | lst h _ => exact lstK h.1
    | tup h _ => exact tupK h.1
    | dct _ h => exact .base (.dK h)
theorem ke_isi (T : Ty) {p q : Pos} (ha : KO pm ct a sa) (hs : starB a = true) (hg : glB ct.sc "isinstance" = true) (hT : glB ct.sc (Str.ofString T.s) = true) : KE pm ct (.Call (.Name "isinstance" p) [a, .Name (Str.ofString T.s) q] [] pos) (op1 (isiD T) sa) := by
  refine ⟨fun X E xo t => ?_⟩
  obtain ⟨h4, h5⟩ := glB_ok hg xo.sc
  obtain ⟨h6, h7⟩ := glB_ok hT xo.sc
  have pT : PE X (.Name (Str.ofString T.s) q) (tC (.ty T.s)) := pe_bltn h6 (xo.free _ T.free) T.boot rfl T.name h7
  refine (pe_callB call_isi h4 (xo.free _ (by decide)) PyProof.Rows.boot_isinstance (pa_cons (ha.go X E xo t) (pa_cons pT pa_nil (star_ok rfl)) (star_ok hs)) (by decide) h5 (star_ok hs) (stars_ok rfl)).imp fun σ H Q h => ?_
  refine op1_read (r := fun v H Q => rIsi X.K [v, .ty T.s] H Q) ?_ h
  intro E σ Z H ρ Fs Q x v w s rx e p
  rw [xo.hK]
  exact ⟨v, .ty T.s, .type (tyS x), .type T.s, isTy T x, rfl, .ty _, tyx_of rx, kit_ty (isTy_kit T x), boFin s p e rfl⟩

/-! ### a slot's list is changed -/
section
variable {K : PySem.W.Frag} {Z : Addr → Prop} {H : Hp} {ρ : Sl} {σ : L2.St} {Fs : Nat → List Addr} {i : Nat}
/-- the list in slot i: where it stands -/
theorem SOk.lstAt (s : SOk K Z H ρ σ Fs) {xs : List PyData} (e : gt ρ i = some (.fl xs)) : ∃ p vs, σ[i]? = some (some (.ref p)) ∧ H p = some (.lst vs) ∧ RDs K Z H xs vs ∧ Fs i = [p] := by
  obtain ⟨v, h1, h2⟩ := s.here i _ e
  generalize hF : Fs i = F at h2
  cases h2 with
  | fl q r => exact ⟨_, _, h1, q, r, rfl⟩
theorem SOk.wr (s : SOk K Z H ρ σ Fs) {xs ys : List PyData} {p : Addr} {vs us : List V} (e : gt ρ i = some (.fl xs)) (hv : σ[i]? = some (some (.ref p))) (hp : H p = some (.lst vs)) (hF : Fs i = [p]) (r : RDs K Z H ys us) :
    SOk K Z (upd H p (.lst us)) (pt ρ i (some (.fl ys))) σ Fs where
  len := by rw [pt_len]; exact s.len
  here := fun j u q => by
    have nz : ∀ a o, Z a → H a = some o → (upd H p (.lst us)) a = some o := fun a o z h => by
      have hap : a ≠ p := fun z' => by
        rw [z'] at z
        exact s.nz i p (by rw [hF]; exact List.mem_singleton.mpr rfl) z
      rw [upd_ne hap]
      exact h
    by_cases hj : j = i
    · subst hj
      rw [gt_pt_same (gt_lt e)] at q
      cases q
      refine ⟨_, hv, ?_⟩
      rw [hF]
      exact .fl upd_same (r.keep (fun _ z => z) nz)
    · rw [gt_pt_ne hj] at q
      obtain ⟨v, h1, h2⟩ := s.here j u q
      refine ⟨v, h1, h2.keep (fun _ z => z) nz fun a ha o h => ?_⟩
      rw [upd_ne (fun z => s.dis j i a hj ha (by rw [hF, z]; exact List.mem_singleton.mpr rfl))]
      exact h
  gone := fun j q => by
    by_cases hj : j = i
    · subst hj
      rw [gt_pt_same (gt_lt e)] at q
      cases q
    · rw [gt_pt_ne hj] at q
      exact s.gone j q
  dis := s.dis
  nd := s.nd
  nz := s.nz
  zd := fun a z => by
    by_cases h : a = p
    · rw [h, upd_same]; exact fun z => nomatch z
    · rw [upd_ne h]; exact s.zd a z
theorem Stp.wr {p : Addr} {vs us : List V} (hF : Fs i = [p]) (hp : H p = some (.lst vs)) : Stp Z (Tot Fs) H Z (Tot Fs) (upd H p (.lst us)) where
  zz := fun _ z => z
  keep := fun a o h n => by
    rw [upd_ne (fun z => n ⟨i, by rw [hF, z]; exact List.mem_singleton.mpr rfl⟩)]
    exact h
  fsub := fun _ z => .inl z
  zsub := fun _ z => .inl z
  dom := fun a h => by
    by_cases e : a = p
    · rw [e, upd_same] at h; cases h
    · rw [upd_ne e] at h; exact h
end
/-- i.pop(k) -/
def popE (i : Nat) (k : SD) : SE := fun ρ => match gt ρ i with
  | some (.fl _) => (k ρ).bd fun x ρ1 => match x, gt ρ1 i with
    | .int n, some (.fl xs) => if -(2 ^ 63) ≤ n ∧ n < 2 ^ 63 then match seqIndex? n xs.length with
        | some j => match xs[j]? with
          | some y => .ok (.d y) (pt ρ1 i (some (.fl (xs.eraseIdx j))))
          | none => .no
        | none => .no
      else .no
    | _, _ => .no
  | _ => .no
theorem ke_pop {x : Str} {i : Nat} {p apos : Pos} {sk : SD} (hn : ct.N[i]? = some x) (hv : visB ct.sc x = true) (hb : KD pm ct b sk) (hs : starB b = true) (hl : (apos.endLine == pos.line) = true) : KE pm ct (.Call (.Attribute (.Name x p) "pop" apos) [b] [] pos) (popE i sk) := by
  refine ⟨fun X E xo t => (pe_bm PySem.F.plainAttrs_list PySem.F.slot_list_pop PySem.F.type_list_pop mt_popAt (pe_nm xo hn hv) (pa_cons (hb.go X E xo t) pa_nil (star_ok hs)) rfl ?_ hl (star_ok hs) rfl).imp fun σ H Q ⟨Z, ρ, Fs, ok, h⟩ => ?_⟩
  · rw [star_ok hs]
    rfl
  · unfold popE at h
    split at h
    · rename_i xs0 e0
      obtain ⟨q, vs0, hq, hH0, r0, hF0⟩ := ok.lstAt e0
      refine ⟨_, hq, .inl ⟨rfl, vs0, .inl (.inl hH0)⟩, Z, ρ, Fs, ok, (PR.bd h).imp ?_⟩
      rintro v H1 ⟨y, ρ1, Z1, Fs1, s1, hy, -, st, h1⟩
      split at h1
      · rename_i n xs e1
        split at h1
        · rename_i hr
          split at h1
          · rename_i j e2
            split at h1
            · rename_i y e3
              obtain ⟨q1, vs, hq1, hH, r, hF⟩ := s1.lstAt e1
              rw [hq] at hq1
              cases hq1
              obtain ⟨u, hu, ru⟩ := r.get e3
              refine ⟨_, vs, n, j, u, rfl, by rw [int_of hy], hH, hr.1, hr.2, by rw [r.len]; exact e2, hu, ?_⟩
              have s2 := s1.wr e1 hq hH hF (r.erase j)
              have ru2 : RD pm.g.K Z1 (upd H1 q (.lst (vs.eraseIdx j))) y u := (Stp.wr (us := vs.eraseIdx j) hF hH).rd s1.zf ru
              exact PR.fin (h1.step (Stp.wr hF hH)) s2 (.d ru2)
            · exact h1.elim
          · exact h1.elim
        · exact h1.elim
      · exact h1.elim
    · exact h.elim
end
end Ev
set_option Elab.async false
set_option maxRecDepth 100000
set_option maxHeartbeats 4000000
/-! Ev9: targets, what is walked, comprehensions. -/
namespace Ev
open PySem PySem.Spec PyProof.Rows L2

/-! ### a slot is set -/
def setF (Fs : Nat → List Addr) (i : Nat) (T : List Addr) : Nat → List Addr := fun j => if j = i then T else Fs j
theorem setF_same {Fs : Nat → List Addr} {i : Nat} {T : List Addr} : setF Fs i T i = T := if_pos rfl
theorem setF_ne {Fs : Nat → List Addr} {i j : Nat} {T : List Addr} (h : j ≠ i) : setF Fs i T j = Fs j := if_neg h
section
variable {K : PySem.W.Frag} {Z : Addr → Prop} {H : Hp} {ρ : Sl} {σ : L2.St} {Fs : Nat → List Addr} {i : Nat} {w : W} {v : V} {T : List Addr}
theorem SOk.setW (s : SOk K Z H ρ σ Fs) (hi : i < ρ.length) (r : RW K Z H w v T) (rn : T.Nodup) (rz : ∀ c ∈ T, ¬ Z c) (rf : ∀ c ∈ T, ¬ Tot Fs c) : SOk K Z H (pt ρ i (some w)) (σ.set i (some v)) (setF Fs i T) where
  len := by rw [pt_len, List.length_set]; exact s.len
  here := fun j u q => by
    by_cases hj : j = i
    · subst hj
      rw [gt_pt_same hi] at q
      cases q
      refine ⟨v, List.getElem?_set_self (by rw [s.len]; exact hi), ?_⟩
      rw [setF_same]
      exact r
    · rw [gt_pt_ne hj] at q
      obtain ⟨v', h1, h2⟩ := s.here j u q
      rw [setF_ne hj, List.getElem?_set_ne (Ne.symm hj)]
      exact ⟨v', h1, h2⟩
  gone := fun j q => by
    by_cases hj : j = i
    · subst hj
      rw [gt_pt_same hi] at q
      cases q
    · rw [gt_pt_ne hj] at q
      rw [setF_ne hj]
      exact s.gone j q
  dis := fun j k a n h h' => by
    by_cases hj : j = i
    · by_cases hk : k = i
      · exact n (hj.trans hk.symm)
      · rw [hj, setF_same] at h
        rw [setF_ne hk] at h'
        exact rf a h ⟨k, h'⟩
    · rw [setF_ne hj] at h
      by_cases hk : k = i
      · rw [hk, setF_same] at h'
        exact rf a h' ⟨j, h⟩
      · rw [setF_ne hk] at h'
        exact s.dis j k a n h h'
  nd := fun j => by
    unfold setF
    split
    · exact rn
    · exact s.nd j
  nz := fun j a h => by
    unfold setF at h
    split at h
    · exact rz a h
    · exact s.nz j a h
  zd := s.zd
end

/-! ### targets -/
abbrev ST' := PyData → Sl → Option Sl
abbrev STs := List PyData → Sl → Option Sl
/-- what is known behind an assignment of a frozen value -/
def Set' (g : G0) (Z : Addr → Prop) (H : Hp) (σ : L2.St) (Fs : Nat → List Addr) (ws : List Nat) (o : Option Sl) (Q : L2.St → Hp → Prop) : Prop :=
  match o with
  | some ρ' => ∀ σ' Fs', SOk g.K Z H ρ' σ' Fs' → σ'.length = σ.length → (∀ j, j ∉ ws → σ'[j]? = σ[j]?) → (∀ a, Tot Fs' a → Tot Fs a) → Q σ' H
  | none => False
def tG (g : G0) (ts : ST') (ws : List Nat) : TG := fun v σ H Q => ∃ Z ρ Fs x, SOk g.K Z H ρ σ Fs ∧ RD g.K Z H x v ∧ Set' g Z H σ Fs ws (ts x ρ) Q
def tGs (g : G0) (ts : STs) (ws : List Nat) : TGs := fun vs σ H Q => ∃ Z ρ Fs xs, SOk g.K Z H ρ σ Fs ∧ RDs g.K Z H xs vs ∧ Set' g Z H σ Fs ws (ts xs ρ) Q
structure KG (pm : Pm) (ct : Ct) (tg : Expr) (ts : ST') (ws : List Nat) : Prop where
  go : ∀ X, XOk pm ct X → PG X tg (tG pm.g ts ws)
structure KGs (pm : Pm) (ct : Ct) (tgs : List Expr) (ts : STs) (ws : List Nat) : Prop where
  go : ∀ X, XOk pm ct X → PGs X tgs (tGs pm.g ts ws)
theorem _root_.L2.PG.imp {X : Cx} {e : Expr} {t t' : TG} (h : PG X e t) (q : ∀ v σ H Q, t' v σ H Q → t v σ H Q) : PG X e t' := ⟨fun pins s σ H v u Q I r z => h.run pins s σ H v u Q I r (q v σ H Q z)⟩
theorem _root_.L2.PGs.imp {X : Cx} {e : List Expr} {t t' : TGs} (h : PGs X e t) (q : ∀ v σ H Q, t' v σ H Q → t v σ H Q) : PGs X e t' := ⟨fun pins s σ H v u Q I r z => h.run pins s σ H v u Q I r (q v σ H Q z)⟩
theorem _root_.L2.PG.or {X : Cx} {e : Expr} {t t' : TG} (h : PG X e t) (h' : PG X e t') : PG X e (fun v σ H Q => t v σ H Q ∨ t' v σ H Q) :=
  ⟨fun pins s σ H v u Q I r z => z.elim (h.run pins s σ H v u Q I r) (h'.run pins s σ H v u Q I r)⟩
/-- a name that can be stored -/
def stoB (ct : Ct) (x : Str) : Bool := match ct.sc.names.lookup x with
  | some .local => true
  | some .cell => ct.fn x
  | _ => false
def nmG (i : Nat) : ST' := fun x ρ => if i < ρ.length then some (pt ρ i (some (.d x))) else none
section
variable {pm : Pm} {ct : Ct} {pos : Pos}
theorem sto_ok {x : Str} {X : Cx} (h : stoB ct x = true) (xo : XOk pm ct X) : L2.Loc X.env.scope x ∧ (X.fn x = true ∨ X.env.scope.names.lookup x = some .local) := by
  unfold stoB at h
  rw [xo.sc, xo.fn]
  unfold L2.Loc
  split at h
  · rename_i e
    exact ⟨.inl e, .inr e⟩
  · rename_i e
    exact ⟨.inr e, .inl h⟩
  · cases h
theorem kg_name {i : Nat} {x : Str} (hn : ct.N[i]? = some x) (hv : stoB ct x = true) : KG pm ct (.Name x pos) (nmG i) [i] := by
  refine ⟨fun X xo => ?_⟩
  obtain ⟨h1, h2⟩ := sto_ok hv xo
  refine (pg_name (by rw [xo.hN]; exact xo.nd) (by rw [xo.hN]; exact hn) h1 h2).imp fun v σ H Q ⟨Z, ρ, Fs, y, s, r, h⟩ => ?_
  unfold nmG at h
  split at h
  · rename_i hi
    refine h _ _ (s.setW hi (.d r) .nil (fun _ z => nomatch z) fun _ z => nomatch z) List.length_set (fun j hj => ?_) fun a ⟨j, z⟩ => ?_
    · rw [List.getElem?_set_ne]
      exact fun z => hj (by rw [z]; exact List.mem_singleton.mpr rfl)
    · unfold setF at z
      split at z
      · cases z
      · exact ⟨j, z⟩
  · exact h.elim
def nilG : STs := fun xs ρ => match xs with
  | [] => some ρ
  | _ => none
def consG (t : ST') (u : STs) : STs := fun xs ρ => match xs with
  | x :: r => (t x ρ).bind fun ρ1 => u r ρ1
  | [] => none
theorem kgs_nil : KGs pm ct [] nilG [] := by
  refine ⟨fun X xo => pgs_nil.imp fun vs σ H Q ⟨Z, ρ, Fs, xs, s, r, h⟩ => ?_⟩
  cases r with
  | nil => exact ⟨rfl, h σ Fs s rfl (fun _ _ => rfl) fun _ z => z⟩
  | cons _ _ => exact h.elim
theorem asg_ok {e : Expr} {es : List Expr} {env : Env} (h : starB e = true) : (assignEach (e :: es) env).map (·.2) = assign e env :: (assignEach es env).map (·.2) := by
  cases e <;> first | rfl | cases h
theorem kgs_cons {e : Expr} {es : List Expr} {t : ST'} {u : STs} {ws us : List Nat} (h1 : KG pm ct e t ws) (h2 : KGs pm ct es u us) (hs : starB e = true) : KGs pm ct (e :: es) (consG t u) (ws ++ us) := by
  refine ⟨fun X xo => (pgs_cons (h1.go X xo) (h2.go X xo) (asg_ok hs)).imp fun vs σ H Q ⟨Z, ρ, Fs, xs, s, r, h⟩ => ?_⟩
  cases r with
  | nil => exact h.elim
  | @cons x v xs vs r1 r2 =>
    refine ⟨v, vs, rfl, Z, ρ, Fs, x, s, r1, ?_⟩
    have h' : Set' pm.g Z H σ Fs (ws ++ us) ((t x ρ).bind fun ρ1 => u xs ρ1) Q := h
    cases e1 : t x ρ with
    | none => rw [e1] at h'; exact h'.elim
    | some ρ1 =>
      rw [e1] at h'
      intro σ1 Fs1 s1 l1 k1 f1
      refine ⟨Z, ρ1, Fs1, xs, s1, r2, ?_⟩
      have h2 : Set' pm.g Z H σ Fs (ws ++ us) (u xs ρ1) Q := h'
      cases e2 : u xs ρ1 with
      | none => rw [e2] at h2; exact h2.elim
      | some ρ2 =>
        rw [e2] at h2
        intro σ2 Fs2 s2 l2 k2 f2
        exact h2 σ2 Fs2 s2 (l2.trans l1) (fun j hj => (k2 j fun z => hj (List.mem_append_right _ z)).trans (k1 j fun z => hj (List.mem_append_left _ z))) fun a z => f1 a (f2 a z)
def tupG (n : Nat) (t : STs) : ST' := fun x ρ => match x with
  | .tuple xs => if xs.length = n then t xs ρ else none
  | .list xs => if xs.length = n then t xs ρ else none
  | _ => none
def noStars : List Expr → Bool
  | [] => true
  | e :: es => starB e && noStars es
theorem noStars_len {env : Env} : ∀ {es : List Expr}, noStars es = true → (assignEach es env).length = es.length ∧ (assignEach es env).findIdx? (·.1) = none
  | [], _ => ⟨rfl, rfl⟩
  | e :: es, h => by
    unfold noStars at h
    simp only [Bool.and_eq_true] at h
    obtain ⟨h1, h2⟩ := noStars_len (env := env) h.2
    have e1 : assignEach (e :: es) env = (false, assign e env) :: assignEach es env := by
      cases e <;> first | rfl | cases h.1
    rw [e1]
    refine ⟨by rw [List.length_cons, List.length_cons, h1], ?_⟩
    rw [List.findIdx?_cons]
    simp [h2]
theorem kg_tup {es : List Expr} {k : Nat} {t : STs} {ws : List Nat} (h : KGs pm ct es t ws) (hs : noStars es = true) : KG pm ct (.Tuple es k pos) (tupG es.length t) ws := by
  refine ⟨fun X xo => ?_⟩
  obtain ⟨n1, n2⟩ := noStars_len (env := X.env) hs
  refine ((pg_tup xo.calm (h.go X xo) n1 n2).or (pg_lst xo.calm (h.go X xo) n1 n2)).imp fun v σ H Q ⟨Z, ρ, Fs, x, s, r, h⟩ => ?_
  cases r with
  | tup hz r =>
    have h' : Set' pm.g Z H σ Fs ws (if _ = es.length then t _ ρ else none) Q := h
    split at h'
    · rename_i hl
      exact .inl ⟨_, _, rfl, by rw [xo.hK]; exact hz.1, by rw [r.len]; exact hl, Z, ρ, Fs, _, s, r, h'⟩
    · exact h'.elim
  | lst hz r =>
    have h' : Set' pm.g Z H σ Fs ws (if _ = es.length then t _ ρ else none) Q := h
    split at h'
    · rename_i hl
      exact .inr ⟨_, _, rfl, .inl hz.1, by rw [r.len]; exact hl, Z, ρ, Fs, _, s, r, h'⟩
    · exact h'.elim
  | _ => exact h.elim
end
end Ev
set_option Elab.async false
set_option maxRecDepth 100000
set_option maxHeartbeats 4000000
/-! Ev10: hidden slots, what is walked. -/
namespace Ev
open PySem PySem.Spec PyProof.Rows L2

/-! ### slots hidden and brought back -/
def hide : List Nat → Sl → Sl
  | [], ρ => ρ
  | j :: js, ρ => pt (hide js ρ) j none
def back : List Nat → Sl → Sl → Sl
  | [], _, ρ => ρ
  | j :: js, ρ0, ρ => pt (back js ρ0 ρ) j (gt ρ0 j)
theorem hide_len : ∀ (js : List Nat) (ρ : Sl), (hide js ρ).length = ρ.length
  | [], _ => rfl
  | j :: js, ρ => (pt_len _ _ _).trans (hide_len js ρ)
theorem back_len : ∀ (js : List Nat) (ρ0 ρ : Sl), (back js ρ0 ρ).length = ρ.length
  | [], _, _ => rfl
  | j :: js, ρ0, ρ => (pt_len _ _ _).trans (back_len js ρ0 ρ)
theorem gt_hide : ∀ {js : List Nat} {ρ : Sl} {k : Nat}, gt (hide js ρ) k = if k ∈ js then none else gt ρ k
  | [], _, _ => by simp [hide]
  | j :: js, ρ, k => by
    unfold hide
    by_cases h : k = j
    · subst h
      rw [if_pos List.mem_cons_self]
      by_cases hl : k < (hide js ρ).length
      · exact gt_pt_same hl
      · exact gt_out (by rw [pt_len]; omega)
    · rw [gt_pt_ne h, gt_hide]
      by_cases h2 : k ∈ js
      · rw [if_pos h2, if_pos (List.mem_cons_of_mem _ h2)]
      · rw [if_neg h2, if_neg (fun z => by rcases List.mem_cons.mp z with z | z; exact h z; exact h2 z)]
theorem gt_back : ∀ {js : List Nat} {ρ0 ρ : Sl} {k : Nat}, ρ0.length = ρ.length → gt (back js ρ0 ρ) k = if k ∈ js then gt ρ0 k else gt ρ k
  | [], _, _, _, _ => by simp [back]
  | j :: js, ρ0, ρ, k, hl => by
    unfold back
    by_cases h : k = j
    · subst h
      rw [if_pos List.mem_cons_self]
      by_cases hk : k < (back js ρ0 ρ).length
      · exact gt_pt_same hk
      · rw [gt_out (by rw [pt_len]; omega), gt_out (by rw [back_len] at hk; omega)]
    · rw [gt_pt_ne h, gt_back hl]
      by_cases h2 : k ∈ js
      · rw [if_pos h2, if_pos (List.mem_cons_of_mem _ h2)]
      · rw [if_neg h2, if_neg (fun z => by rcases List.mem_cons.mp z with z | z; exact h z; exact h2 z)]
def hideF (js : List Nat) (Fs : Nat → List Addr) : Nat → List Addr := fun k => if k ∈ js then [] else Fs k
def backF (js : List Nat) (Fs Fs' : Nat → List Addr) : Nat → List Addr := fun k => if k ∈ js then Fs k else Fs' k
theorem hideF_sub {js : List Nat} {Fs : Nat → List Addr} {k : Nat} {a : Addr} (h : a ∈ hideF js Fs k) : a ∈ Fs k ∧ k ∉ js := by
  unfold hideF at h
  split at h
  · cases h
  · exact ⟨h, ‹_›⟩
theorem hideF_app {is js : List Nat} {Fs : Nat → List Addr} : hideF (is ++ js) Fs = hideF is (hideF js Fs) := by
  funext k
  unfold hideF
  by_cases h1 : k ∈ is <;> by_cases h2 : k ∈ js <;> simp [h1, h2]
section
variable {K : PySem.W.Frag} {Z Z' : Addr → Prop} {H H' : Hp} {ρ ρ' : Sl} {σ σ' σ1 : L2.St} {Fs Fs' : Nat → List Addr} {js : List Nat}
theorem SOk.hide (s : SOk K Z H ρ σ Fs) (hl : σ'.length = σ.length) (hσ : ∀ k, k ∉ js → σ'[k]? = σ[k]?) : SOk K Z H (Ev.hide js ρ) σ' (hideF js Fs) where
  len := by rw [hide_len, hl]; exact s.len
  here := fun k w e => by
    rw [gt_hide] at e
    split at e
    · cases e
    · rename_i h
      obtain ⟨v, h1, h2⟩ := s.here k w e
      unfold hideF
      rw [if_neg h, hσ k h]
      exact ⟨v, h1, h2⟩
  gone := fun k e => by
    rw [gt_hide] at e
    unfold hideF
    split
    · rfl
    · rename_i h
      rw [if_neg h] at e
      exact s.gone k e
  dis := fun i j a n h h' => s.dis i j a n (hideF_sub h).1 (hideF_sub h').1
  nd := fun k => by
    unfold hideF
    split
    · exact .nil
    · exact s.nd k
  nz := fun k a h => s.nz k a (hideF_sub h).1
  zd := s.zd
theorem SOk.unhide (s0 : SOk K Z H ρ σ Fs) (s1 : SOk K Z' H' ρ' σ1 Fs') (st : Stp Z (Tot (hideF js Fs)) H Z' (Tot Fs') H') (hl : ρ'.length = ρ.length) (hlen : σ'.length = σ.length) (h0 : ∀ k, k ∈ js → σ'[k]? = σ[k]?) (h1 : ∀ k, k ∉ js → σ'[k]? = σ1[k]?) :
    SOk K Z' H' (back js ρ ρ') σ' (backF js Fs Fs') := by
  have off : ∀ {k : Nat} {a : Addr}, k ∈ js → a ∈ Fs k → ¬ Tot (hideF js Fs) a := fun {k a} hk ha ⟨j, z⟩ => by
    obtain ⟨z1, z2⟩ := hideF_sub z
    exact s0.dis k j a (fun e => z2 (e ▸ hk)) ha z1
  have off' : ∀ {k : Nat} {a : Addr}, k ∈ js → a ∈ Fs k → ¬ Tot Fs' a := fun {k a} hk ha z => by
    rcases st.fsub a z with z | z
    · exact off hk ha z
    · exact s0.laid ha z
  refine ⟨by rw [back_len, hlen, s0.len, hl], fun k w e => ?_, fun k e => ?_, fun i j a n h h' => ?_, fun k => ?_, fun k a h z => ?_, s1.zd⟩
  · rw [gt_back hl.symm] at e
    unfold backF
    split at e
    · rename_i hk
      rw [if_pos hk, h0 k hk]
      obtain ⟨v, q1, q2⟩ := s0.here k w e
      exact ⟨v, q1, q2.keep st.zz (fun a o z q => st.keep a o q (fun ⟨j, y⟩ => s0.nz j a (hideF_sub y).1 z)) fun a ha o q => st.keep a o q (off hk ha)⟩
    · rename_i hk
      rw [if_neg hk, h1 k hk]
      exact s1.here k w e
  · rw [gt_back hl.symm] at e
    unfold backF
    split at e
    · rename_i hk
      rw [if_pos hk]
      exact s0.gone k e
    · rename_i hk
      rw [if_neg hk]
      exact s1.gone k e
  · unfold backF at h h'
    split at h
    · rename_i hi
      split at h'
      · exact s0.dis i j a n h h'
      · exact off' hi h ⟨j, h'⟩
    · split at h'
      · rename_i hj
        exact off' hj h' ⟨i, h⟩
      · exact s1.dis i j a n h h'
  · unfold backF
    split
    · exact s0.nd k
    · exact s1.nd k
  · unfold backF at h
    split at h
    · rename_i hk
      rcases st.zsub a z with z | z | z
      · exact s0.nz k a h z
      · exact off hk h z
      · exact s0.laid h z
    · exact s1.nz k a h z
theorem Stp.unhide (st : Stp Z (Tot (hideF js Fs)) H Z' (Tot Fs') H') : Stp Z (Tot Fs) H Z' (Tot (backF js Fs Fs')) H' where
  zz := st.zz
  keep := fun a o h n => st.keep a o h fun ⟨j, z⟩ => n ⟨j, (hideF_sub z).1⟩
  fsub := fun a ⟨k, h⟩ => by
    unfold backF at h
    split at h
    · exact .inl ⟨k, h⟩
    · rcases st.fsub a ⟨k, h⟩ with ⟨j, z⟩ | z
      · exact .inl ⟨j, (hideF_sub z).1⟩
      · exact .inr z
  zsub := fun a z => by
    rcases st.zsub a z with z | ⟨j, z⟩ | z
    · exact .inl z
    · exact .inr (.inl ⟨j, (hideF_sub z).1⟩)
    · exact .inr (.inr z)
  dom := st.dom
end

/-! ### what is walked -/
/-- what a turn yields: a thing that stands, or a new tuple -/
def Yl (g : G0) (Z : Addr → Prop) (H : Hp) (x : PyData) (v : V) (H' : Hp) : Prop :=
  (H' = H ∧ RD g.K Z H x v) ∨ ∃ p vs ys, v = .ref p ∧ H p = none ∧ H' = upd H p (.tup vs) ∧ x = .tuple ys ∧ RDs g.K Z H ys vs
def Jok (g : G0) (J : It) (Hd : (Addr → Prop) → Hp → Prop) (xs : List PyData) : Prop := ∀ Z H, Hd Z H →
  (∀ i, i < xs.length → J.go i H) ∧ (∀ i, xs.length ≤ i → J.stop i H) ∧ ∀ i v H', i < xs.length → J.yld i H v H' → ∃ x, xs[i]? = some x ∧ Yl g Z H x v H'
abbrev Sr := List PyData × List Nat
abbrev SI := Sl → R Sr
def PRS (g : G0) (E : WX) (σ : L2.St) (r : R Sr) (Z F : Addr → Prop) (H : Hp) (Q : It → Hp → Prop) : Prop := match r with
  | .ok sr ρ' => ∀ J Z' H' Fs' Hd, SOk g.K Z' H' ρ' σ Fs' → Jok g J Hd sr.1 → Hd Z' H' → (∀ F Z2 F2 H2, (∀ a, F a → Tot (hideF sr.2 Fs') a) → Stp Z' F H' Z2 F2 H2 → Hd Z2 H2) → Stp Z F H Z' (Tot Fs') H' → Q J H'
  | .ex C x ρ' => ∀ cls dx Z' H' Fs', SOk g.K Z' H' ρ' σ Fs' → XR g Z' H' C x cls dx → Stp Z F H Z' (Tot Fs') H' → E cls dx σ H'
  | .no => False
theorem PRS.step {g : G0} {E : WX} {σ : L2.St} {r : R Sr} {Z F Z1 F1 : Addr → Prop} {H H1 : Hp} {Q : It → Hp → Prop} (h : PRS g E σ r Z F H Q) (st : Stp Z F H Z1 F1 H1) : PRS g E σ r Z1 F1 H1 Q := by
  cases r with
  | ok a ρ' => exact fun J Z' H' Fs' Hd s q1 q2 q3 t => h J Z' H' Fs' Hd s q1 q2 q3 (st.trans t)
  | ex C x ρ' => exact fun cls dx Z' H' Fs' s q t => h cls dx Z' H' Fs' s q (st.trans t)
  | no => exact h
theorem PRS.bd {g : G0} {E : WX} {σ : L2.St} {α β : Type} {Rp : (Addr → Prop) → Hp → α → β → Prop} {r : R α} {f : α → Sl → R Sr} {Z F : Addr → Prop} {H : Hp} {Q : It → Hp → Prop} (h : PRS g E σ (r.bd f) Z F H Q) :
    PR0 g E σ Rp r Z F H (Mid g E σ Rp r Z F H fun a ρ1 Z1 Fs1 H1 => PRS g E σ (f a ρ1) Z1 (Tot Fs1) H1 Q) := by
  cases r with
  | ok a ρ' => exact fun b Z' H' Fs' s q1 t => ⟨a, ρ', Z', Fs', s, q1, rfl, t, PRS.step (r := f a ρ') h t⟩
  | ex C x ρ' => exact h
  | no => exact h
def tI (g : G0) (E : WX) (s : SI) : TI := fun σ H Q => ∃ Z ρ Fs, SOk g.K Z H ρ σ Fs ∧ PRS g E σ (s ρ) Z (Tot Fs) H Q
theorem _root_.L2.PI.imp {X : Cx} {tg e : Expr} {t t' : TI} (h : PI X tg e t) (q : ∀ σ H Q, t' σ H Q → t σ H Q) : PI X tg e t' := ⟨fun pins s σ H Q I r => h.run pins s σ H Q I (q σ H Q r)⟩
theorem _root_.L2.PI.or {X : Cx} {tg e : Expr} {t t' : TI} (h : PI X tg e t) (h' : PI X tg e t') : PI X tg e (fun σ H Q => t σ H Q ∨ t' σ H Q) :=
  ⟨fun pins s σ H Q I r => r.elim (h.run pins s σ H Q I) (h'.run pins s σ H Q I)⟩
structure KI (pm : Pm) (ct : Ct) (tg e : Expr) (s : SI) : Prop where
  go : ∀ X E, XOk pm ct X → Takes X E → PI X tg e (tI pm.g E s)

/-! a list, by an operand -/
def srO (ρ : Sl) : O → Option Sr
  | .v (.list xs) => some (xs, [])
  | .s i => match gt ρ i with
    | some (.fl xs) => some (xs, [i])
    | some (.d (.list xs)) => some (xs, [])
    | _ => none
  | _ => none
/-- the list an operand is: where it stands, and that it stays -/
theorem srO_ok {g : G0} {σ : L2.St} {Z : Addr → Prop} {H : Hp} {ρ : Sl} {Fs : Nat → List Addr} {o : O} {v : V} {sr : Sr} (s : SOk g.K Z H ρ σ Fs) (h : OIs g σ Z H o v) (e : srO ρ o = some sr) :
    ∃ a vs, v = .ref a ∧ Rd H a (.lst vs) ∧ RDs g.K Z H sr.1 vs ∧ ¬ Tot (hideF sr.2 Fs) a := by
  cases o with
  | v x =>
    cases x with
    | list xs =>
      cases e
      have h' : RD g.K Z H (.list xs) v := h
      cases h' with
      | lst q r => exact ⟨_, _, rfl, q.1, r, fun ⟨j, z⟩ => s.nz j _ (hideF_sub z).1 q.2⟩
    | _ => cases e
  | s i =>
    have e' : (match gt ρ i with | some (.fl xs) => some (xs, [i]) | some (.d (.list xs)) => some (xs, []) | _ => none) = some sr := e
    have h0 : σ[i]? = some (some v) := h
    split at e'
    · rename_i xs q
      cases e'
      obtain ⟨p, vs, h1, h2, h3, h4⟩ := s.lstAt q
      rw [h1] at h0
      cases h0
      refine ⟨p, vs, rfl, .inl h2, h3, fun ⟨j, z⟩ => ?_⟩
      obtain ⟨z1, z2⟩ := hideF_sub z
      exact s.dis i j p (fun y => z2 (by rw [← y]; exact List.mem_singleton.mpr rfl)) (by rw [h4]; exact List.mem_singleton.mpr rfl) z1
    · rename_i xs q
      cases e'
      obtain ⟨u, h1, h2⟩ := s.here i _ q
      rw [h1] at h0
      cases h0
      generalize Fs i = F at h2
      cases h2 with
      | d r =>
        cases r with
        | lst q r => exact ⟨_, _, rfl, q.1, r, fun ⟨j, z⟩ => s.nz j _ (hideF_sub z).1 q.2⟩
    · cases e'
/-- a list that stands -/
def HdL (g : G0) (a : Addr) (vs : List V) (xs : List PyData) : (Addr → Prop) → Hp → Prop := fun Z H => Rd H a (.lst vs) ∧ RDs g.K Z H xs vs
theorem HdL.keep {g : G0} {σ : L2.St} {ρ : Sl} {Fs : Nat → List Addr} {a : Addr} {vs : List V} {xs : List PyData} {Z F Z2 F2 : Addr → Prop} {H H2 : Hp} {ln : List Nat} (s : SOk g.K Z H ρ σ Fs) (h : HdL g a vs xs Z H) (ha : ¬ Tot (hideF ln Fs) a)
    (hF : ∀ a, F a → Tot (hideF ln Fs) a) (st : Stp Z F H Z2 F2 H2) : HdL g a vs xs Z2 H2 :=
  ⟨Rd.keep h.1 fun o q => st.keep a o q fun z => ha (hF a z), st.rds (fun c z f => by
    obtain ⟨j, y⟩ := hF c f
    exact s.nz j c (hideF_sub y).1 z) h.2⟩
def seqS (a : SO) : SI := fun ρ => (a ρ).bd fun o ρ1 => match srO ρ1 o with
  | some sr => .ok sr ρ1
  | none => .no
theorem jok_list {g : G0} {a : Addr} {vs : List V} {xs : List PyData} (hl : vs.length = xs.length) : Jok g (Itl g.K a) (HdL g a vs xs) xs := by
  intro Z H ⟨h1, h2⟩
  have q : SqL g.K H a vs := .inl h1
  refine ⟨fun i hi => ?_, fun i hi => ⟨vs, q, by omega⟩, fun i v H' hi ⟨e, y⟩ => ?_⟩
  · obtain ⟨v, hv, _⟩ := h2.get (List.getElem?_eq_getElem hi)
    exact ⟨vs, v, q, hv⟩
  · obtain ⟨x, hx, r⟩ := h2.get' (y vs q)
    exact ⟨x, hx, .inl ⟨e, r⟩⟩
section
variable {pm : Pm} {ct : Ct} {tg e : Expr} {sa : SO} {pos : Pos}
theorem ki_seq (ha : KO pm ct e sa) : KI pm ct tg e (seqS sa) := by
  refine ⟨fun X E xo t => (pi_list (ha.go X E xo t)).imp fun σ H Q ⟨Z, ρ, Fs, ok, h⟩ => ⟨Z, ρ, Fs, ok, (PRS.bd h).imp ?_⟩⟩
  rintro v H1 ⟨o, ρ1, Z1, Fs1, s1, ho, -, st, h1⟩
  cases e1 : srO ρ1 o with
  | none => rw [e1] at h1; exact h1.elim
  | some sr =>
    rw [e1] at h1
    obtain ⟨a, vs, rfl, q1, q2, q3⟩ := srO_ok s1 ho e1
    refine ⟨a, rfl, ⟨vs, .inl q1⟩, ?_⟩
    rw [xo.hK]
    exact h1 _ Z1 H1 Fs1 (HdL pm.g a vs sr.1) s1 (jok_list q2.len) ⟨q1, q2⟩ (fun F Z2 F2 H2 hF st2 => HdL.keep s1 ⟨q1, q2⟩ q3 hF st2) .refl
/-! enumerate -/
def enumD : Nat → List PyData → List PyData
  | _, [] => []
  | k, x :: xs => .tuple [.int k, x] :: enumD (k + 1) xs
theorem enumD_len : ∀ (k : Nat) (xs : List PyData), (enumD k xs).length = xs.length
  | _, [] => rfl
  | k, x :: xs => congrArg (· + 1) (enumD_len (k + 1) xs)
theorem enumD_get : ∀ (k : Nat) (xs : List PyData) (i : Nat) (x : PyData), xs[i]? = some x → (enumD k xs)[i]? = some (.tuple [.int ((k + i : Nat) : Int), x])
  | _, [], _, _, h => by simp at h
  | k, y :: xs, 0, x, h => by
    simp at h
    subst h
    rfl
  | k, y :: xs, i + 1, x, h => by
    have h' : xs[i]? = some x := by simpa using h
    have := enumD_get (k + 1) xs i x h'
    rw [show k + (i + 1) = k + 1 + i by omega]
    simpa [enumD] using this
def enumS (a : SO) : SI := fun ρ => (a ρ).bd fun o ρ1 => match srO ρ1 o with
  | some sr => .ok (enumD 0 sr.1, sr.2) ρ1
  | none => .no
theorem jok_enum {g : G0} {a : Addr} {vs : List V} {xs : List PyData} (hl : vs.length = xs.length) : Jok g (Ite g.K a) (HdL g a vs xs) (enumD 0 xs) := by
  intro Z H ⟨h1, h2⟩
  have q : SqL g.K H a vs := .inl h1
  rw [enumD_len]
  refine ⟨fun i hi => ?_, fun i hi => ⟨vs, q, by omega⟩, fun i v H' hi ⟨p, x, ev, hp, eH, y⟩ => ?_⟩
  · obtain ⟨v, hv, _⟩ := h2.get (List.getElem?_eq_getElem hi)
    exact ⟨vs, v, q, hv⟩
  · obtain ⟨z, hz, r⟩ := h2.get' (y vs q)
    have := enumD_get 0 xs i z hz
    rw [Nat.zero_add] at this
    exact ⟨_, this, .inr ⟨p, _, _, ev, hp, eH, rfl, .cons (.int _) (.cons r .nil)⟩⟩
theorem ki_enum {es : List Expr} {k : Nat} {tp p : Pos} (ha : KO pm ct e sa) (hg : glB ct.sc "enumerate" = true) (hs : starB e = true) : KI pm ct (.Tuple es k tp) (.Call (.Name "enumerate" p) [e] [] pos) (enumS sa) := by
  refine ⟨fun X E xo t => ?_⟩
  obtain ⟨h4, _⟩ := glB_ok hg xo.sc
  refine (pi_enum h4 (xo.free _ (by decide)) (pa_cons (ha.go X E xo t) pa_nil (star_ok hs)) (star_ok hs)).imp fun σ H Q ⟨Z, ρ, Fs, ok, h⟩ => ⟨Z, ρ, Fs, ok, (PRS.bd h).imp ?_⟩
  rintro v H1 ⟨o, ρ1, Z1, Fs1, s1, ho, -, st, h1⟩
  cases e1 : srO ρ1 o with
  | none => rw [e1] at h1; exact h1.elim
  | some sr =>
    rw [e1] at h1
    obtain ⟨a, vs, rfl, q1, q2, q3⟩ := srO_ok s1 ho e1
    refine ⟨a, vs, rfl, by rw [xo.hK]; exact .inl q1, ?_⟩
    rw [xo.hK]
    exact h1 _ Z1 H1 Fs1 (HdL pm.g a vs sr.1) s1 (jok_enum q2.len) ⟨q1, q2⟩ (fun F Z2 F2 H2 hF st2 => HdL.keep s1 ⟨q1, q2⟩ q3 hF st2) .refl
/-! range -/
def rangeD (lo : Int) (n : Nat) : List PyData := (List.range n).map fun i : Nat => .int (lo + (i : Int))
theorem jok_range {g : G0} {lo : Int} {n : Nat} : Jok g (Itr lo n) (fun _ _ => True) (rangeD lo n) := by
  intro Z H _
  unfold rangeD
  rw [List.length_map, List.length_range]
  refine ⟨fun i hi => hi, fun i hi => hi, fun i v H' hi ⟨e, y⟩ => ⟨.int (lo + i), ?_, .inl ⟨e, ?_⟩⟩⟩
  · rw [List.getElem?_map, List.getElem?_range hi]
    rfl
  · rw [y]
    exact .int _
def rngS1 (a : SD) : SI := fun ρ => (a ρ).bd fun x ρ1 => match x with
  | .int j => if -(2 ^ 62) ≤ j ∧ j < 2 ^ 62 then .ok (rangeD 0 j.toNat, []) ρ1 else .no
  | _ => .no
def rngS2 (a b : SD) : SI := fun ρ => (a ρ).bd fun x ρ1 => (b ρ1).bd fun y ρ2 => match x, y with
  | .int i, .int j => if -(2 ^ 62) ≤ i ∧ i < 2 ^ 62 ∧ -(2 ^ 62) ≤ j ∧ j < 2 ^ 62 then .ok (rangeD i (j - i).toNat, []) ρ2 else .no
  | _, _ => .no
theorem ki_rng1 {p : Pos} {s : SD} (ha : KD pm ct e s) (hg : glB ct.sc "range" = true) (hs : starB e = true) : KI pm ct tg (.Call (.Name "range" p) [e] [] pos) (rngS1 s) := by
  refine ⟨fun X E xo t => ?_⟩
  obtain ⟨h4, _⟩ := glB_ok hg xo.sc
  refine (pi_range1 h4 (xo.free _ (by decide)) (pa_cons (ha.go X E xo t) pa_nil (star_ok hs)) (star_ok hs)).imp fun σ H Q ⟨Z, ρ, Fs, ok, h⟩ => ⟨Z, ρ, Fs, ok, (PRS.bd h).imp ?_⟩
  rintro v H1 ⟨x, ρ1, Z1, Fs1, s1, hx, -, st, h1⟩
  split at h1
  · split at h1
    · rename_i hc
      rw [int_of hx]
      exact ⟨_, rfl, hc.1, hc.2, h1 _ Z1 H1 Fs1 (fun _ _ => True) s1 jok_range trivial (fun _ _ _ _ _ _ => trivial) .refl⟩
    · exact h1.elim
  · exact h1.elim
theorem ki_rng2 {p : Pos} {e2 : Expr} {s s2 : SD} (ha : KD pm ct e s) (hb : KD pm ct e2 s2) (hg : glB ct.sc "range" = true) (hs : starB e = true) (hs2 : starB e2 = true) : KI pm ct tg (.Call (.Name "range" p) [e, e2] [] pos) (rngS2 s s2) := by
  refine ⟨fun X E xo t => ?_⟩
  obtain ⟨h4, _⟩ := glB_ok hg xo.sc
  have st2 : starEach [e2] X.env = [(false, eval e2 X.env)] := star_ok hs2
  refine (pi_range2 h4 (xo.free _ (by decide)) (pa_cons (ha.go X E xo t) (pa_cons (hb.go X E xo t) pa_nil st2) (star_ok hs)) (by rw [star_ok hs, st2]) st2).imp fun σ H Q ⟨Z, ρ, Fs, ok, h⟩ => ⟨Z, ρ, Fs, ok, (PRS.bd h).imp ?_⟩
  rintro v H1 ⟨x, ρ1, Z1, Fs1, s1, hx, -, st, h1⟩
  refine ⟨Z1, ρ1, Fs1, s1, (PRS.bd h1).imp ?_⟩
  rintro v2 H2 ⟨y, ρ2, Z2, Fs2, s2, hy, -, st', h2⟩
  split at h2
  · split at h2
    · rename_i hc
      rw [int_of hx, int_of hy]
      exact ⟨_, _, rfl, hc, h2 _ Z2 H2 Fs2 (fun _ _ => True) s2 jok_range trivial (fun _ _ _ _ _ _ => trivial) .refl⟩
    · exact h2.elim
  · exact h2.elim
/-! the signs of a text -/
def strS (a : SO) : SI := fun ρ => (a ρ).bd fun o ρ1 => match lk ρ1 o with
  | some (.str z) => .ok (z.cps.toList.map fun c => .str ⟨#[c]⟩, []) ρ1
  | _ => .no
theorem ki_str (ha : KO pm ct e sa) : KI pm ct tg e (strS sa) := by
  refine ⟨fun X E xo t => (pi_str (ha.go X E xo t)).imp fun σ H Q ⟨Z, ρ, Fs, ok, h⟩ => ⟨Z, ρ, Fs, ok, (PRS.bd h).imp ?_⟩⟩
  rintro v H1 ⟨o, ρ1, Z1, Fs1, s1, ho, -, st, h1⟩
  split at h1
  · rename_i z e1
    rw [(OIs.rx ho s1 e1).str_]
    refine ⟨z, rfl, h1 _ Z1 H1 Fs1 (fun _ _ => True) s1 (fun Z H _ => ?_) trivial (fun _ _ _ _ _ _ => trivial) .refl⟩
    rw [List.length_map, Array.length_toList]
    refine ⟨fun i hi => hi, fun i hi => hi, fun i v H' hi ⟨e, c, hc, ev⟩ => ⟨.str ⟨#[c]⟩, ?_, .inl ⟨e, by rw [ev]; exact .str _⟩⟩⟩
    rw [List.getElem?_map, Array.getElem?_toList, hc]
    rfl
  · exact h1.elim
end
end Ev
set_option Elab.async false
set_option maxRecDepth 100000
set_option maxHeartbeats 4000000
/-! Ev11: comprehensions. -/
namespace Ev
open PySem PySem.Spec PyProof.Rows L2

/-- what a turn yields is frozen -/
theorem Yl.step {g : G0} {Z : Addr → Prop} {H H' : Hp} {x : PyData} {v : V} {ρ : Sl} {σ : L2.St} {Fs : Nat → List Addr} {F : Addr → Prop} (y : Yl g Z H x v H') (s : SOk g.K Z H ρ σ Fs) (zf : ∀ a, Z a → ¬ F a) :
    ∃ Z', SOk g.K Z' H' ρ σ Fs ∧ RD g.K Z' H' x v ∧ Stp Z F H Z' F H' := by
  rcases y with ⟨rfl, r⟩ | ⟨p, vs, ys, rfl, hp, rfl, rfl, r⟩
  · exact ⟨Z, s, r, .refl⟩
  · have st : Stp Z F H (fun a => Z a ∨ a = p) F (upd H p (.tup vs)) := Stp.new hp
    exact ⟨_, s.new hp, .tup ⟨.inl (.inl upd_same), .inl (.inr rfl)⟩ (st.rds zf r), st⟩
section
variable {K : PySem.W.Frag} {Z : Addr → Prop} {H : Hp} {ρ : Sl} {σ : L2.St} {Fs : Nat → List Addr} {D : Addr} {o : HO}
/-- a thing of nobody is written -/
theorem SOk.out (s : SOk K Z H ρ σ Fs) (hz : ¬ Z D) (hf : ¬ Tot Fs D) : SOk K Z (upd H D o) ρ σ Fs where
  len := s.len
  here := fun i w e => by
    obtain ⟨v, h1, h2⟩ := s.here i w e
    exact ⟨v, h1, h2.keep (fun _ z => z) (fun a o z q => by rw [upd_ne (fun (e : a = D) => hz (e ▸ z))]; exact q) fun a ha o q => by rw [upd_ne (fun (e : a = D) => hf ⟨i, e ▸ ha⟩)]; exact q⟩
  gone := s.gone
  dis := s.dis
  nd := s.nd
  nz := s.nz
  zd := fun a z => by rw [upd_ne (fun (e : a = D) => hz (e ▸ z))]; exact s.zd a z
theorem RDs.out {xs : List PyData} {vs : List V} (r : RDs K Z H xs vs) (hz : ¬ Z D) : RDs K Z (upd H D o) xs vs :=
  r.keep (fun _ z => z) fun a o z q => by rw [upd_ne (fun (e : a = D) => hz (e ▸ z))]; exact q
theorem Stp.out {F Z1 F1 : Addr → Prop} {H0 : Hp} (st : Stp Z F H0 Z1 F1 H) (hn : H0 D = none) : Stp Z F H0 Z1 F1 (upd H D o) where
  zz := st.zz
  keep := fun a q e n => by rw [upd_ne (fun (z : a = D) => by rw [z, hn] at e; cases e)]; exact st.keep a q e n
  fsub := st.fsub
  zsub := st.zsub
  dom := fun a h => by
    by_cases e : a = D
    · rw [e]; exact hn
    · rw [upd_ne e] at h; exact st.dom a h
end

theorem wipe_get {σ : L2.St} : ∀ {vs : List Nat} {k : Nat}, (wipe σ vs)[k]? = if k ∈ vs then (if k < σ.length then some none else none) else σ[k]?
  | [], k => by simp [wipe]
  | v :: vs, k => by
    unfold wipe
    by_cases h : k = v
    · subst h
      rw [if_pos List.mem_cons_self]
      split
      · rename_i hl
        rw [List.getElem?_set_self (by rw [wipe_length]; exact hl)]
      · rename_i hl
        rw [List.getElem?_eq_none (by rw [List.length_set, wipe_length]; omega)]
    · rw [List.getElem?_set_ne (Ne.symm h), wipe_get]
      by_cases h2 : k ∈ vs
      · rw [if_pos h2, if_pos (List.mem_cons_of_mem _ h2)]
      · rw [if_neg h2, if_neg (fun z => by rcases List.mem_cons.mp z with z | z; exact h z; exact h2 z)]
theorem wipe_eq {σ σ2 : L2.St} {vs ws : List Nat} (hl : σ2.length = σ.length) (hk : ∀ j, j ∉ ws → σ2[j]? = (wipe σ vs)[j]?) (hw : ∀ j ∈ ws, j ∈ vs) : wipe σ2 vs = wipe σ vs := by
  apply List.ext_getElem?
  intro k
  rw [wipe_get, wipe_get, hl]
  by_cases h : k ∈ vs
  · rw [if_pos h, if_pos h]
  · rw [if_neg h, if_neg h, hk k (fun z => h (hw k z)), wipe_get, if_neg h]

/-! ### the walk of a comprehension -/
def compGo (js : List Nat) (tg : ST') (cd : ST) (el : SD) : List PyData → Sl → Option (List PyData × Sl)
  | [], ρ => some ([], ρ)
  | x :: xs, ρ => match tg x ρ with
    | none => none
    | some ρ2 => match cd ρ2 with
      | .ok true ρ3 => match el ρ3 with
        | .ok y ρ4 => (compGo js tg cd el xs (hide js ρ4)).map fun p => (y :: p.1, p.2)
        | _ => none
      | .ok false ρ3 => compGo js tg cd el xs (hide js ρ3)
      | _ => none
def compR (own : List Nat) (tg : ST') (cd : ST) (el : SD) (sr : Sr) (ρ1 : Sl) : R W :=
  if sr.1.length ≤ 16777216 then match compGo (own ++ sr.2) tg cd el sr.1 (hide (own ++ sr.2) ρ1) with
    | some p => .ok (.fl p.1) (back (own ++ sr.2) ρ1 p.2)
    | none => .no
  else .no
def compE (own : List Nat) (tg : ST') (cd : ST) (el : SD) (src : SI) : SE := fun ρ => match src ρ with
  | .ok sr ρ1 => compR own tg cd el sr ρ1
  | .ex C x ρ1 => .ex C x ρ1
  | .no => .no
theorem compGo_len {js : List Nat} {tg : ST'} {cd : ST} {el : SD} : ∀ {xs : List PyData} {ρ : Sl} {p : List PyData × Sl}, compGo js tg cd el xs ρ = some p → p.1.length ≤ xs.length
  | [], _, p, h => by cases h; exact Nat.le_refl _
  | x :: xs, ρ, p, h => by
    unfold compGo at h
    split at h
    · cases h
    · split at h
      · split at h
        · rename_i y ρ4 _
          cases e : compGo js tg cd el xs (hide js ρ4) with
          | none => rw [e] at h; cases h
          | some q =>
            rw [e] at h
            cases h
            exact Nat.succ_le_succ (compGo_len e)
        · cases h
      · exact Nat.le_succ_of_le (compGo_len h)
      · cases h
theorem tk0 {X : Cx} : Takes X (fun _ _ _ _ => False) := fun _ _ ⟨_, _, _, _, _, _, _, _, _, _, _, _, _, _, _, _, w⟩ => w.elim
/-- the tests -/
structure KTs (pm : Pm) (ct : Ct) (es : List Expr) (s : ST) : Prop where
  go : ∀ X E, XOk pm ct X → Takes X E → PTs X es (tT pm.g E s)
def yesT : ST := fun ρ => .ok true ρ
theorem kts_nil {pm : Pm} {ct : Ct} : KTs pm ct [] yesT :=
  ⟨fun X E x t => ⟨fun pins s σ H Q I ⟨Z, ρ, Fs, ok, h⟩ => pts_nil.run pins s σ H Q I (PR0.fin h ok rfl)⟩⟩
theorem kts_one {pm : Pm} {ct : Ct} {c : Expr} {s : ST} (h : KT pm ct c s) : KTs pm ct [c] s := ⟨fun X E x t => pts_one (h.go X E x t)⟩

/-- the block's place -/
def blkCt (ct : Ct) (scope : Scope) : Ct := ⟨ct.N, relS scope ct.sc, fun x => scope.names.lookup x == some .cell⟩
theorem XOk.blk {pm : Pm} {ct : Ct} {X : Cx} (xo : XOk pm ct X) {scope : Scope} {s : Shared} {H : Hp} {C : Addr} {cl : List (Str × Addr)} {fp : List Addr} : XOk pm (blkCt ct scope) (X.blk s H scope (compEnvC scope cl C X.env) fp) where
  hK := xo.hK
  hN := xo.hN
  nd := xo.nd
  sc := by show relS scope X.env.scope = relS scope ct.sc; rw [xo.sc]
  fn := rfl
  calm := xo.calm
  room := xo.room
  gd := xo.gd
  free := xo.free
  con := xo.con
  defs := xo.defs
  exc := xo.exc
  exm := xo.exm

/-- what holds ahead of each turn -/
structure CInv (g : G0) (Hd : (Addr → Prop) → Hp → Prop) (js : List Nat) (tg : ST') (cd : ST) (el : SD) (σw : L2.St) (Z1 : Addr → Prop) (F1 : Addr → Prop) (H1 : Hp) (D : Addr) (xs ys : List PyData) (ρe : Sl) (i : Nat) (H : Hp) : Prop where
  ex : ∃ Z ρ Fs acc vs ys', SOk g.K Z H ρ σw Fs ∧ compGo js tg cd el (xs.drop i) ρ = some (ys', ρe) ∧ ys = acc ++ ys' ∧ acc.length ≤ i ∧ H D = some (.lst vs) ∧ RDs g.K Z H acc vs ∧ ¬ Z D ∧ ¬ Tot Fs D ∧ Stp Z1 F1 H1 Z (Tot Fs) H
section
variable {pm : Pm} {ct : Ct} {tg iter elt : Expr} {ifs : List Expr} {ts : ST'} {ws : List Nat} {cd : ST} {el : SD} {src : SI} {scope : Scope} {own : List (Str × Nat)} {pos : Pos}
theorem comp_read {g : G0} {E : WX} {σ : L2.St} {H : Hp} {Q : VK} {vs : List Nat} (hw : ∀ j ∈ ws, j ∈ vs) (h : tE g E (compE vs ts cd el src) σ H Q) :
    tLc (tI g E src) (tG g ts ws) (tT g (fun _ _ _ _ => False) cd) (tD g (fun _ _ _ _ => False) el) vs σ H Q := by
  obtain ⟨Z, ρ, Fs, s0, h⟩ := h
  refine ⟨Z, ρ, Fs, s0, ?_⟩
  unfold compE at h
  cases e0 : src ρ with
  | no => rw [e0] at h; exact h
  | ex C x ρ1 => rw [e0] at h; exact h
  | ok sr ρ1 =>
    rw [e0] at h
    intro J Z1 H1 Fs1 Hd s1 jok hd hkeep st1 D hD
    have h : PR g E σ (rW g) (compR vs ts cd el sr ρ1) Z (Tot Fs) H Q := h
    unfold compR at h
    split at h
    · rename_i hlen
      split at h
      · rename_i p e1
        obtain ⟨pys, ρe⟩ := p
        generalize hjs : vs ++ sr.2 = js at h e1
        have vj : ∀ j ∈ vs, j ∈ js := fun j hj => by rw [← hjs]; exact List.mem_append_left _ hj
        have sh : SOk g.K Z1 H1 (Ev.hide js ρ1) (wipe σ vs) (hideF js Fs1) := s1.hide (wipe_length _ _) fun k hk => by rw [wipe_get, if_neg (fun z => hk (vj k z))]
        have hsub : ∀ a, Tot (hideF js Fs1) a → Tot (hideF sr.2 Fs1) a := fun a ⟨k, z⟩ => by
          obtain ⟨z1, z2⟩ := hideF_sub z
          refine ⟨k, ?_⟩
          unfold hideF
          rw [if_neg (fun y => z2 (by rw [← hjs]; exact List.mem_append_right _ y))]
          exact z1
        refine ⟨fun i m H => m = sr.1.length - i ∧ i ≤ sr.1.length ∧ CInv g Hd js ts cd el (wipe σ vs) Z1 (Tot (hideF js Fs1)) H1 D sr.1 pys ρe i H, ⟨sr.1.length, by simp, Nat.zero_le _, ?_⟩, ?_⟩
        · refine ⟨⟨Z1, Ev.hide js ρ1, hideF js Fs1, [], [], pys, sh.newF hD, e1, rfl, Nat.le_refl _, upd_same, .nil, fun z => s1.zd D z hD, fun z => ?_, Stp.refl.out hD⟩⟩
          obtain ⟨k, z⟩ := z
          exact s1.laid (hideF_sub z).1 hD
        · rintro i m H2 ⟨rfl, hi, ⟨Z2, ρ2, Fs2, acc, accv, ys', s2, e2, ey, hal, hDv, racc, zD, fD, st2⟩⟩
          have hd2 : Hd Z2 H2 := hkeep _ Z2 _ H2 hsub st2
          obtain ⟨j1, j2, j3⟩ := jok Z2 H2 hd2
          by_cases hlt : i < sr.1.length
          · refine .inr ⟨j1 i hlt, CInv g Hd js ts cd el (wipe σ vs) Z1 (Tot (hideF js Fs1)) H1 D sr.1 pys ρe (i + 1), fun H' q => ⟨sr.1.length - (i + 1), by omega, rfl, hlt, q⟩, fun v H' y => ?_⟩
            obtain ⟨x, hx, yl⟩ := j3 i v H' hlt y
            obtain ⟨Z3, s3, rx, st3⟩ := yl.step s2 s2.zf
            have ed : sr.1.drop i = x :: sr.1.drop (i + 1) := by
              rw [List.drop_eq_getElem_cons hlt]
              congr 1
              rw [List.getElem?_eq_getElem hlt] at hx
              exact Option.some.inj hx
            rw [ed] at e2
            unfold compGo at e2
            have hD3 : H' D = some (.lst accv) := st3.keep D _ hDv fD
            have zD3 : ¬ Z3 D := fun z => by
              rcases st3.zsub D z with z | z | z
              · exact zD z
              · exact fD z
              · rw [hDv] at z; cases z
            have racc3 := st3.rds s2.zf racc
            refine ⟨Z3, ρ2, Fs2, x, s3, rx, ?_⟩
            cases e3 : ts x ρ2 with
            | none => rw [e3] at e2; cases e2
            | some ρ3 =>
              rw [e3] at e2
              intro σ4 Fs4 s4 l4 k4 f4
              have hwipe : wipe σ4 vs = wipe σ vs := wipe_eq (by rw [l4, wipe_length]) k4 hw
              have back4 : ∀ {Z5 : Addr → Prop} {ρ5 : Sl} {Fs5 : Nat → List Addr} {H5 : Hp}, SOk g.K Z5 H5 ρ5 σ4 Fs5 → SOk g.K Z5 H5 (Ev.hide js ρ5) (wipe σ vs) (hideF js Fs5) := fun s5 =>
                s5.hide (by rw [l4]) fun k hk => (k4 k fun z => hk (vj k (hw k z))).symm
              have st4 : Stp Z1 (Tot (hideF js Fs1)) H1 Z3 (Tot Fs4) H' := (st2.trans st3).wk (fun _ z => z) fun c z => .inl (f4 c z)
              have fD4 : ¬ Tot Fs4 D := fun z => fD (f4 D z)
              refine ⟨hwipe, Z3, ρ3, Fs4, s4, ?_⟩
              have after : ∀ {b : Bool} {ρ5 : Sl} {Z5 : Addr → Prop} {Fs5 : Nat → List Addr} {H5 : Hp}, SOk g.K Z5 H5 ρ5 σ4 Fs5 → Stp Z3 (Tot Fs4) H' Z5 (Tot Fs5) H5 →
                  Stp Z1 (Tot (hideF js Fs1)) H1 Z5 (Tot (hideF js Fs5)) H5 ∧ H5 D = some (.lst accv) ∧ RDs g.K Z5 H5 acc accv ∧ ¬ Z5 D ∧ ¬ Tot Fs5 D := fun s5 st5 => by
                refine ⟨(st4.trans st5).wk (fun _ z => z) fun c ⟨k, z⟩ => .inl ⟨k, (hideF_sub z).1⟩, st5.keep D _ hD3 fD4, st5.rds s4.zf racc3, fun z => ?_, fun z => ?_⟩
                · rcases st5.zsub D z with z | z | z
                  · exact zD3 z
                  · exact fD4 z
                  · rw [hD3] at z; cases z
                · rcases st5.fsub D z with z | z
                  · exact fD4 z
                  · rw [hD3] at z; cases z
              have e4 : (match cd ρ3 with | .ok true ρ3 => (match el ρ3 with | .ok y ρ4 => (compGo js ts cd el (sr.1.drop (i + 1)) (hide js ρ4)).map fun p => (y :: p.1, p.2) | _ => none) | .ok false ρ3 => compGo js ts cd el (sr.1.drop (i + 1)) (hide js ρ3) | _ => none) = some (ys', ρe) := e2
              cases e5 : cd ρ3 with
              | no => rw [e5] at e4; cases e4
              | ex C x ρ' => rw [e5] at e4; cases e4
              | ok b ρ5 =>
                rw [e5] at e4
                intro b' Z5 H5 Fs5 s5 hb st5
                cases hb
                obtain ⟨a1, a2, a3, a4, a5⟩ := after (b := b) s5 st5
                cases b with
                | false =>
                  refine ⟨⟨Z5, Ev.hide js ρ5, hideF js Fs5, acc, accv, ys', back4 s5, e4, ey, Nat.le_succ_of_le hal, a2, a3, a4, fun ⟨k, z⟩ => a5 ⟨k, (hideF_sub z).1⟩, a1⟩⟩
                | true =>
                  rw [if_pos rfl]
                  refine ⟨Z5, ρ5, Fs5, s5, ?_⟩
                  have e6 : (match el ρ5 with | .ok y ρ4 => (compGo js ts cd el (sr.1.drop (i + 1)) (hide js ρ4)).map fun p => (y :: p.1, p.2) | _ => none) = some (ys', ρe) := e4
                  cases e7 : el ρ5 with
                  | no => rw [e7] at e6; cases e6
                  | ex C x ρ' => rw [e7] at e6; cases e6
                  | ok y ρ6 =>
                    rw [e7] at e6
                    intro yv Z6 H6 Fs6 s6 ry st6
                    obtain ⟨b1, b2, b3, b4, b5⟩ := after (b := true) s6 (st5.trans st6)
                    refine ⟨accv, b2, ?_, ?_⟩
                    · rw [b3.len]
                      show _ < 16777216
                      omega
                    · replace e6 : (compGo js ts cd el (sr.1.drop (i + 1)) (hide js ρ6)).map (fun p => (y :: p.1, p.2)) = some (ys', ρe) := e6
                      cases e8 : compGo js ts cd el (sr.1.drop (i + 1)) (hide js ρ6) with
                      | none => rw [e8] at e6; cases e6
                      | some q =>
                        rw [e8] at e6
                        cases e6
                        refine ⟨⟨Z6, Ev.hide js ρ6, hideF js Fs6, acc ++ [y], accv ++ [yv], q.1, (back4 s6).out b4 fun ⟨k, z⟩ => b5 ⟨k, (hideF_sub z).1⟩, e8, by rw [ey]; simp, ?_, upd_same, (b3.out b4).app (.cons ?_ .nil), b4, fun ⟨k, z⟩ => b5 ⟨k, (hideF_sub z).1⟩, b1.out hD⟩⟩
                        · simp
                          omega
                        · exact RD.keep (fun _ z => z) (fun a o z q => by rw [upd_ne (fun (e : a = D) => b4 (e ▸ z))]; exact q) ry
          · have hil : i = sr.1.length := by omega
            subst hil
            refine .inl ⟨j2 _ (Nat.le_refl _), ?_⟩
            rw [List.drop_length] at e2
            cases e2
            rw [List.append_nil] at ey
            have hl2 : ρe.length = ρ1.length := by rw [← s2.len, wipe_length, s1.len]
            refine h (.ref D) Z2 H2 (backF js Fs1 Fs2) [D] (s1.unhide s2 st2 hl2 rfl (fun _ _ => rfl) fun k hk => by rw [wipe_get, if_neg (fun z => hk (vj k z))]) (.fl hDv (by rw [ey]; exact racc)) (by simp) (fun c hc z => zD (by rw [List.mem_singleton.mp hc] at z; exact z)) (fun c hc z => ?_) ?_
            · rw [List.mem_singleton.mp hc] at z
              obtain ⟨k, z⟩ := z
              unfold backF at z
              split at z
              · exact s1.laid z hD
              · exact fD ⟨k, z⟩
            · exact (st1.trans st2.unhide).wk (fun _ z => z) fun c z => by
                rcases z with z | z
                · exact .inl z
                · rw [List.mem_singleton.mp z]
                  exact .inr (.inr (st1.dom D hD))
      · exact h.elim
    · exact h.elim
theorem ke_lc (hi : KI pm ct tg iter src) (hg : KG pm (blkCt ct scope) tg ts ws) (hc : KTs pm (blkCt ct scope) ifs cd) (he : KD pm (blkCt ct scope) elt el) (hb : blkC ct.N ct.sc scope own = true) (hw : ws.all (fun j => (own.map (·.2)).contains j) = true)
    (hs : ∀ env x, foldedSetIterable iter env x = pure x := by intro _ _; rfl) : KE pm ct (.ListComp elt [⟨tg, iter, ifs, 0⟩] scope pos) (compE (own.map (·.2)) ts cd el src) := by
  refine ⟨fun X E xo t => (pe_lc xo.calm (by rw [xo.hN]; exact xo.nd) (hi.go X E xo t) (by rw [xo.hN, xo.sc]; exact blkOk_by hb) (fun s H C cl fp => hg.go _ xo.blk) (fun s H C cl fp => hc.go _ _ xo.blk tk0) (fun s H C cl fp => he.go _ _ xo.blk tk0) (hs X.env)).imp fun σ H Q h => ?_⟩
  refine comp_read (fun j hj => ?_) h
  have := List.all_eq_true.mp hw j hj
  exact List.contains_iff_mem.mp this
end
end Ev
set_option Elab.async false
set_option maxRecDepth 100000
set_option maxHeartbeats 4000000
/-! Ev12: calls of the program's own defs. -/
namespace Ev
open PySem PySem.Spec PyProof.Rows L2

/-! ### the arguments, as slots -/
def ar (ρ : Sl) : O → Option W
  | .v x => some (.d x)
  | .s i => gt ρ i
def arF (Fs : Nat → List Addr) : Option O → List Addr
  | some (.s i) => Fs i
  | _ => []
/-- no slot is given twice -/
def refs : List O → List Nat
  | [] => []
  | .v _ :: os => refs os
  | .s i :: os => i :: refs os
def fnd : List O → Nat → Option Nat
  | [], _ => none
  | .v _ :: os, j => (fnd os j).map (· + 1)
  | .s i :: os, j => if j = i then some 0 else (fnd os j).map (· + 1)
/-- what the slots hold behind the call -/
def bk : List O → Sl → Sl → Sl
  | .v _ :: os, _ :: ρa, ρ => bk os ρa ρ
  | .s i :: os, o :: ρa, ρ => pt (bk os ρa ρ) i o
  | _, _, ρ => ρ
theorem bk_len : ∀ (os : List O) (ρa ρ : Sl), (bk os ρa ρ).length = ρ.length
  | [], _, _ => by unfold bk; rfl
  | .v _ :: os, [], _ => rfl
  | .s _ :: os, [], _ => rfl
  | .v _ :: os, _ :: ρa, ρ => bk_len os ρa ρ
  | .s _ :: os, _ :: ρa, ρ => (pt_len _ _ _).trans (bk_len os ρa ρ)
theorem gt_bk : ∀ {os : List O} {ρa ρ : Sl} {j : Nat}, ρa.length = os.length → j < ρ.length → gt (bk os ρa ρ) j = match fnd os j with
    | some k => gt ρa k
    | none => gt ρ j
  | [], _, _, _, _, _ => by unfold bk; rfl
  | .v _ :: os, [], _, _, h, _ => by cases h
  | .s _ :: os, [], _, _, h, _ => by cases h
  | .v _ :: os, o :: ρa, ρ, j, h, hj => by
    show gt (bk os ρa ρ) j = match (fnd os j).map (· + 1) with | some k => gt (o :: ρa) k | none => gt ρ j
    rw [gt_bk (Nat.succ.inj h) hj]
    cases fnd os j <;> rfl
  | .s i :: os, o :: ρa, ρ, j, h, hj => by
    show gt (pt (bk os ρa ρ) i o) j = match (if j = i then some 0 else (fnd os j).map (· + 1)) with | some k => gt (o :: ρa) k | none => gt ρ j
    by_cases e : j = i
    · rw [if_pos e, e, gt_pt_same (by rw [bk_len, ← e]; exact hj)]
      rfl
    · rw [if_neg e, gt_pt_ne e, gt_bk (Nat.succ.inj h) hj]
      cases fnd os j <;> rfl
theorem fnd_some : ∀ {os : List O} {j k : Nat}, fnd os j = some k → os[k]? = some (.s j)
  | [], _, _, h => nomatch h
  | .v _ :: os, j, k, h => by
    have h' : (fnd os j).map (· + 1) = some k := h
    cases e : fnd os j with
    | none => rw [e] at h'; cases h'
    | some n => rw [e] at h'; cases h'; simpa using fnd_some e
  | .s i :: os, j, k, h => by
    have h' : (if j = i then some 0 else (fnd os j).map (· + 1)) = some k := h
    split at h'
    · rename_i e
      cases h'
      rw [e]
      rfl
    · cases e : fnd os j with
      | none => rw [e] at h'; cases h'
      | some n => rw [e] at h'; cases h'; simpa using fnd_some e
theorem fnd_none : ∀ {os : List O} {j k : Nat}, fnd os j = none → os[k]? ≠ some (.s j)
  | [], _, _, _ => by simp
  | .v _ :: os, j, 0, _ => by simp
  | .v _ :: os, j, k + 1, h => by
    have h' : (fnd os j).map (· + 1) = none := h
    have := fnd_none (os := os) (j := j) (k := k) (by simpa using h')
    simpa using this
  | .s i :: os, j, 0, h => by
    have h' : (if j = i then some 0 else (fnd os j).map (· + 1)) = none := h
    intro z
    have : i = j := by simpa using z
    rw [if_pos this.symm] at h'
    cases h'
  | .s i :: os, j, k + 1, h => by
    have h' : (if j = i then some 0 else (fnd os j).map (· + 1)) = none := h
    split at h'
    · cases h'
    · have := fnd_none (os := os) (j := j) (k := k) (by simpa using h')
      simpa using this
theorem refs_mem : ∀ {os : List O} {k i : Nat}, os[k]? = some (.s i) → i ∈ refs os
  | [], _, _, h => by simp at h
  | .v _ :: os, 0, _, h => by simp at h
  | .s j :: os, 0, i, h => by
    have : j = i := by simpa using h
    rw [this]
    exact List.mem_cons_self
  | .v _ :: os, k + 1, i, h => refs_mem (os := os) (k := k) (by simpa using h)
  | .s j :: os, k + 1, i, h => List.mem_cons_of_mem _ (refs_mem (os := os) (k := k) (by simpa using h))
theorem refs_inj : ∀ {os : List O} {k l i : Nat}, (refs os).Nodup → os[k]? = some (.s i) → os[l]? = some (.s i) → k = l
  | [], _, _, _, _, h, _ => by simp at h
  | .v _ :: os, 0, _, _, _, h, _ => by simp at h
  | .v _ :: os, _ + 1, 0, _, _, _, h => by simp at h
  | .v _ :: os, k + 1, l + 1, i, nd, h, h' => congrArg (· + 1) (refs_inj (os := os) nd (by simpa using h) (by simpa using h'))
  | .s j :: os, 0, 0, _, _, _, _ => rfl
  | .s j :: os, 0, l + 1, i, nd, h, h' => by
    have e : j = i := by simpa using h
    subst e
    exact absurd (refs_mem (k := l) (by simpa using h')) (List.nodup_cons.mp nd).1
  | .s j :: os, k + 1, 0, i, nd, h, h' => by
    have e : j = i := by simpa using h'
    subst e
    exact absurd (refs_mem (k := k) (by simpa using h)) (List.nodup_cons.mp nd).1
  | .s j :: os, k + 1, l + 1, i, nd, h, h' => congrArg (· + 1) (refs_inj (os := os) (List.nodup_cons.mp nd).2 (by simpa using h) (by simpa using h'))
theorem OsAre.len {g : G0} {σ : L2.St} {Z : Addr → Prop} {H : Hp} : ∀ {os : List O} {vs : List V}, OsAre g σ Z H os vs → vs.length = os.length
  | _, _, .nil => rfl
  | _, _, .cons _ r => congrArg (· + 1) (OsAre.len r)
theorem OsAre.get {g : G0} {σ : L2.St} {Z : Addr → Prop} {H : Hp} : ∀ {os : List O} {vs : List V} {k : Nat} {o : O}, OsAre g σ Z H os vs → os[k]? = some o → ∃ v, vs[k]? = some v ∧ OIs g σ Z H o v
  | _, _, _, _, .nil, e => by simp at e
  | _, _, 0, _, .cons h _, e => by simp at e; subst e; exact ⟨_, rfl, h⟩
  | _, _, k + 1, _, .cons _ r, e => by
    obtain ⟨v, h1, h2⟩ := OsAre.get (k := k) r (by simpa using e)
    exact ⟨v, by simpa using h1, h2⟩
theorem gt_ar {ρ : Sl} {os : List O} {k : Nat} : gt (os.map (ar ρ)) k = (os[k]?).bind (ar ρ) := by
  rw [gt_eq, List.getElem?_map]
  cases os[k]? <;> rfl
section
variable {g : G0} {σ : L2.St} {Z : Addr → Prop} {H : Hp} {ρ : Sl} {Fs : Nat → List Addr} {os : List O} {vs : List V}
theorem mem_arF {o : Option O} {a : Addr} (h : a ∈ arF Fs o) : ∃ i, o = some (.s i) ∧ a ∈ Fs i := by
  unfold arF at h
  split at h
  · exact ⟨_, rfl, h⟩
  · cases h
theorem SOk.args (s : SOk g.K Z H ρ σ Fs) (h : OsAre g σ Z H os vs) (nd : (refs os).Nodup) : SOk g.K Z H (os.map (ar ρ)) (vs.map some) (fun k => arF Fs os[k]?) where
  len := by rw [List.length_map, List.length_map, h.len]
  here := fun k w e => by
    rw [gt_ar] at e
    cases eo : os[k]? with
    | none => rw [eo] at e; cases e
    | some o =>
      rw [eo] at e
      obtain ⟨v, h1, h2⟩ := h.get eo
      refine ⟨v, by rw [List.getElem?_map, h1]; rfl, ?_⟩
      cases o with
      | v x =>
        cases e
        exact .d h2
      | s i =>
        obtain ⟨u, q1, q2⟩ := s.here i w e
        have h2' : σ[i]? = some (some v) := h2
        rw [q1] at h2'
        cases h2'
        exact q2
  gone := fun k e => by
    rw [gt_ar] at e
    cases eo : os[k]? with
    | none => rfl
    | some o =>
      rw [eo] at e
      cases o with
      | v x => cases e
      | s i => exact s.gone i e
  dis := fun k l a n h1 h2 => by
    obtain ⟨i, e1, h1⟩ := mem_arF h1
    obtain ⟨j, e2, h2⟩ := mem_arF h2
    exact s.dis i j a (fun z => n (refs_inj nd e1 (z ▸ e2))) h1 h2
  nd := fun k => by
    unfold arF
    split
    · exact s.nd _
    · exact .nil
  nz := fun k a h1 => by
    obtain ⟨i, _, h1⟩ := mem_arF h1
    exact s.nz i a h1
  zd := s.zd
theorem arF_sub {a : Addr} (h : Tot (fun k => arF Fs os[k]?) a) : Tot Fs a := by
  obtain ⟨k, h⟩ := h
  obtain ⟨i, _, h⟩ := mem_arF h
  exact ⟨i, h⟩
def bkF (os : List O) (Fs Fsa : Nat → List Addr) : Nat → List Addr := fun j => match fnd os j with
  | some k => Fsa k
  | none => Fs j
theorem SOk.backA {Z' : Addr → Prop} {H' : Hp} {ρa : Sl} {Fsa : Nat → List Addr} {F1 : Addr → Prop} (s : SOk g.K Z H ρ σ Fs) (h : OsAre g σ Z H os vs) (nd : (refs os).Nodup) (s1 : SOk g.K Z' H' ρa (vs.map some) Fsa) (hf : ∀ a, Tot Fsa a → F1 a) (st : Stp Z (Tot fun k => arF Fs os[k]?) H Z' F1 H') :
    SOk g.K Z' H' (bk os ρa ρ) σ (bkF os Fs Fsa) ∧ ∀ a, F1 a → ∀ j, fnd os j = none → a ∉ Fs j := by
  have hl : ρa.length = os.length := by rw [← s1.len, List.length_map, h.len]
  have off : ∀ {j : Nat} {a : Addr}, fnd os j = none → a ∈ Fs j → ¬ Tot (fun k => arF Fs os[k]?) a := fun {j a} hj ha ⟨k, z⟩ => by
    obtain ⟨i, e, z⟩ := mem_arF z
    exact s.dis j i a (fun y => fnd_none hj (y ▸ e)) ha z
  have off2 : ∀ {j : Nat} {a : Addr}, fnd os j = none → a ∈ Fs j → ¬ F1 a := fun {j a} hj ha z => by
    rcases st.fsub a z with z | z
    · exact off hj ha z
    · exact s.laid ha z
  have len_lt : ∀ {j : Nat} {w : W}, gt (bk os ρa ρ) j = some w → j < ρ.length := fun {j w} e => by
    have := gt_lt e
    rwa [bk_len] at this
  refine ⟨⟨by rw [bk_len]; exact s.len, fun j w e => ?_, fun j e => ?_, fun i j a n h1 h2 => ?_, fun j => ?_, fun j a h1 z => ?_, s1.zd⟩, fun a hz j hj ha => off2 hj ha hz⟩
  · have hlt := len_lt e
    rw [gt_bk hl hlt] at e
    unfold bkF
    cases ef : fnd os j with
    | some k =>
      rw [ef] at e
      obtain ⟨v, q1, q2⟩ := s1.here k w e
      obtain ⟨u, r1, r2⟩ := h.get (fnd_some ef)
      have r2' : σ[j]? = some (some u) := r2
      rw [List.getElem?_map, r1] at q1
      have q1' := Option.some.inj (Option.some.inj q1)
      subst q1'
      exact ⟨_, r2', q2⟩
    | none =>
      rw [ef] at e
      obtain ⟨v, q1, q2⟩ := s.here j w e
      exact ⟨v, q1, q2.keep st.zz (fun a o z q => st.keep a o q fun y => s.zf a z (arF_sub y)) fun a ha o q => st.keep a o q (off ef ha)⟩
  · unfold bkF
    by_cases hlt : j < ρ.length
    · rw [gt_bk hl hlt] at e
      cases ef : fnd os j with
      | some k => rw [ef] at e; exact s1.gone k e
      | none => rw [ef] at e; exact s.gone j e
    · cases ef : fnd os j with
      | some k =>
        exfalso
        obtain ⟨u, r1, r2⟩ := h.get (fnd_some ef)
        have r2' : σ[j]? = some (some u) := r2
        have := List.getElem?_eq_none (l := σ) (i := j) (by rw [s.len]; omega)
        rw [this] at r2'
        cases r2'
      | none => exact s.gone j (gt_out (by omega))
  · unfold bkF at h1 h2
    cases e1 : fnd os i with
    | some k =>
      rw [e1] at h1
      cases e2 : fnd os j with
      | some l =>
        rw [e2] at h2
        refine s1.dis k l a (fun z => n ?_) h1 h2
        have q1 := fnd_some e1
        have q2 := fnd_some e2
        rw [z, q2] at q1
        cases q1
        rfl
      | none =>
        rw [e2] at h2
        exact off2 e2 h2 (hf a ⟨k, h1⟩)
    | none =>
      rw [e1] at h1
      cases e2 : fnd os j with
      | some l =>
        rw [e2] at h2
        exact off2 e1 h1 (hf a ⟨l, h2⟩)
      | none =>
        rw [e2] at h2
        exact s.dis i j a n h1 h2
  · unfold bkF
    split
    · exact s1.nd _
    · exact s.nd j
  · unfold bkF at h1
    cases ef : fnd os j with
    | some k => rw [ef] at h1; exact s1.nz k a h1 z
    | none =>
      rw [ef] at h1
      rcases st.zsub a z with z | z | z
      · exact s.nz j a h1 z
      · exact off ef h1 z
      · exact s.laid h1 z
theorem Stp.backA {Z' : Addr → Prop} {H' : Hp} {Fsa : Nat → List Addr} {F1 : Addr → Prop} {T : Addr → Prop} (s : SOk g.K Z H ρ σ Fs) (st : Stp Z (Tot fun k => arF Fs os[k]?) H Z' F1 H') (hf : ∀ a, Tot Fsa a ∨ T a → F1 a) : Stp Z (Tot Fs) H Z' (fun c => Tot (bkF os Fs Fsa) c ∨ T c) H' :=
  st.wk (fun c z => arF_sub z) fun c z => by
    rcases z with ⟨j, z⟩ | z
    · unfold bkF at z
      split at z
      · exact .inl (hf c (.inl ⟨_, z⟩))
      · exact .inr (.inl ⟨⟨j, z⟩, s.laid z⟩)
    · exact .inl (hf c (.inr z))
end
/-! ### the promise of a def -/
def spOf (g : G0) (n : Nat) (Φ : SE) : Sp := fun vs H Q E => vs.length = n ∧ tE g (fun c d _ H' => E c d H') Φ (vs.map some) H Q
def callO (n : Nat) (Φ : SE) (os : List O) (ρ1 : Sl) : R W :=
  if os.length = n ∧ (refs os).Nodup then match Φ (os.map (ar ρ1)) with
    | .ok w ρa => .ok w (bk os ρa ρ1)
    | .ex C x ρa => .ex C x (bk os ρa ρ1)
    | .no => .no
  else .no
def callE (n : Nat) (Φ : SE) (as : SA) : SE := fun ρ => (as ρ).bd fun os ρ1 => callO n Φ os ρ1
section
variable {pm : Pm} {ct : Ct}
theorem callO_read {g : G0} {E : WX} {n : Nat} {Φ : SE} {σ : L2.St} {H1 : Hp} {Q : VK} {Z1 : Addr → Prop} {ρ1 : Sl} {Fs1 : Nat → List Addr} {os : List O} {vs : List V} (s1 : SOk g.K Z1 H1 ρ1 σ Fs1) (ho : OsAre g σ Z1 H1 os vs) (h1 : PR g E σ (rW g) (callO n Φ os ρ1) Z1 (Tot Fs1) H1 Q) :
    spOf g n Φ vs H1 Q fun c d H' => E c d σ H' := by
  unfold callO at h1
  split at h1
  · rename_i hc
    refine ⟨by rw [ho.len]; exact hc.1, Z1, os.map (ar ρ1), fun k => arF Fs1 os[k]?, s1.args ho hc.2, ?_⟩
    cases e : Φ (os.map (ar ρ1)) with
    | no => rw [e] at h1; exact h1.elim
    | ok w ρa =>
      rw [e] at h1
      intro v Z' H' Fs' T s' r tn tz tf st'
      obtain ⟨s2, o2⟩ := s1.backA ho hc.2 s' (fun a z => .inl z) st'
      refine h1 v Z' H' _ T s2 r tn tz (fun c hc ⟨j, z⟩ => ?_) (Stp.backA s1 st' fun a z => z)
      unfold bkF at z
      cases ef : fnd os j with
      | some k => rw [ef] at z; exact tf c hc ⟨k, z⟩
      | none => rw [ef] at z; exact o2 c (.inr hc) j ef z
    | ex C x ρa =>
      rw [e] at h1
      intro cls dx Z' H' Fs' s' r st'
      obtain ⟨s2, o2⟩ := s1.backA ho hc.2 s' (fun a z => z) st'
      exact h1 cls dx Z' H' _ s2 r ((Stp.backA (T := fun _ => False) s1 st' fun a z => z.elim (fun y => y) False.elim).wk (fun _ z => z) fun c z => .inl (.inl z))
  · exact h1.elim
theorem callE_read {g : G0} {E : WX} {n : Nat} {Φ : SE} {as : SA} {σ : L2.St} {H : Hp} {Q : VK} (h : tE g E (callE n Φ as) σ H Q) : tA g E as σ H fun vs H1 => spOf g n Φ vs H1 Q fun c d H' => E c d σ H' := by
  obtain ⟨Z, ρ, Fs, ok, h⟩ := h
  refine ⟨Z, ρ, Fs, ok, (PR.bd h).imp ?_⟩
  rintro vs H1 ⟨os, ρ1, Z1, Fs1, s1, ho, -, st, h1⟩
  exact callO_read s1 ho h1
theorem run_fnG {X : Cx} {E : WX} {k : Nat} {f : Addr} {fd : FuncData} {ps : List Str} {sp : Sp} {pins : List (Addr × Obj)} {σ : L2.St} {H : Hp} {s : Shared} {Q : VK} {us : List Value} {vs : List V} (F : FnG X.prog X.w X.K X.mg X.base k f fd ps sp) (hgd : X.A.guards = some []) (hr : Room k X.A) (hb : L2.Binds X.K fd ps [])
    (tk : Takes X E) (I : Inv X pins σ H s) (r : Vals vs us) (h : sp vs H Q fun c d H' => E c d σ H') : wpAny (model X.prog X.w) X.A (call (.ref f) us) (EP X pins σ Q) X.xe s := by
  have hl : us.length = ps.length := by rw [← r.length]; exact F.len _ _ _ _ h
  have hbt := hb s us I.kIn (by rw [List.append_nil]; exact hl)
  rw [List.append_nil] at hbt
  refine wpAny_call (codeAny_mono (F.run X.A X.stack s H ⟨us, []⟩ us vs Q _ hgd hr I.env0 hbt r h) fun r s' hq => ?_)
  cases r with
  | error e => exact tk e s' (XE.of_call I (fun cls d H' h => h) hq)
  | ok fl =>
    cases fl with
    | ret u => exact I.after hq
    | next => exact False.elim hq
    | brk => exact False.elim hq
    | cont => exact False.elim hq
theorem ke_call {x : Str} {e : Expr} {es : List Expr} {p pos : Pos} {as : SA} {i n lv : Nat} {f : Addr} {fd : FuncData} {ps : List Str} {Φ : SE} {kb : List KwE} (hD : pm.D i = some ⟨x, ps, f, fd, spOf pm.g n Φ, lv, kb⟩) (hlv : lv ≤ pm.lv) (ha : KA pm ct (e :: es) as)
    (hg : glB ct.sc x = true) (hs : (e :: es).all starB = true) : KE pm ct (.Call (.Name x p) (e :: es) [] pos) (callE n Φ as) := by
  refine ⟨fun X E xo t => ⟨fun pins s σ H Q I h => ?_⟩⟩
  obtain ⟨d1, d2, d3, d4, _⟩ := xo.defs i _ hD hlv
  obtain ⟨h4, h5⟩ := glB_ok hg xo.sc
  simp only [List.all_cons, Bool.and_eq_true] at hs
  have h6 := callE_read h
  refine wpAny_Call_Name_kw (ld_glob I h4 d1 ?_ h5)
  refine PySem.W.callWith_K (h₀ := X.base) I.ok.mod.kin d2 (thn ((ha.go X E xo t).run pos pins s σ H _ I h6) fun us s1 ⟨vs, H1, I1, r, q⟩ => ⟨I1.kIn, ?_⟩) (star_ok hs.1) ?_
  · exact run_fnG d4 xo.gd (xo.room.mono hlv) d3 t I1 r q
  · exact stars_ok hs.2
end
end Ev
set_option Elab.async false
set_option maxRecDepth 100000
set_option maxHeartbeats 4000000
/-! Ev13: statements. -/
namespace Ev
open PySem PySem.Spec PyProof.Rows L2

/-- only the slots ws may differ -/
structure Ag (ws : List Nat) (σ σ' : L2.St) : Prop where
  len : σ'.length = σ.length
  out : ∀ j, j ∉ ws → σ'[j]? = σ[j]?
theorem Ag.refl {ws : List Nat} {σ : L2.St} : Ag ws σ σ := ⟨rfl, fun _ _ => rfl⟩
theorem Ag.trans {ws : List Nat} {σ σ1 σ2 : L2.St} (a : Ag ws σ σ1) (b : Ag ws σ1 σ2) : Ag ws σ σ2 := ⟨b.len.trans a.len, fun j h => (b.out j h).trans (a.out j h)⟩
theorem Ag.set {ws : List Nat} {σ : L2.St} {i : Nat} {v : Option V} (h : ws.contains i = true) : Ag ws σ (σ.set i v) :=
  ⟨List.length_set, fun j hj => List.getElem?_set_ne fun (e : i = j) => hj (e ▸ List.contains_iff_mem.mp h)⟩
section
variable (g : G0) (E : WX) (ws : List Nat) (σ : L2.St) (D : Ends)
def PSR (r : SR) (Z F : Addr → Prop) (H : Hp) : Prop := match r with
  | .nx ρ' => ∀ σ' Z' H' Fs', SOk g.K Z' H' ρ' σ' Fs' → Ag ws σ σ' → Stp Z F H Z' (Tot Fs') H' → D.nx σ' H'
  | .bk ρ' => ∀ σ' Z' H' Fs', SOk g.K Z' H' ρ' σ' Fs' → Ag ws σ σ' → Stp Z F H Z' (Tot Fs') H' → D.bk σ' H'
  | .ct ρ' => ∀ σ' Z' H' Fs', SOk g.K Z' H' ρ' σ' Fs' → Ag ws σ σ' → Stp Z F H Z' (Tot Fs') H' → D.ct σ' H'
  | .rt w ρ' => ∀ v σ' Z' H' Fs' T, SOk g.K Z' H' ρ' σ' Fs' → Ag ws σ σ' → RW g.K Z' H' w v T → T.Nodup → (∀ c ∈ T, ¬ Z' c) → (∀ c ∈ T, ¬ Tot Fs' c) → Stp Z F H Z' (fun c => Tot Fs' c ∨ c ∈ T) H' → D.rt v H'
  | .ex C x ρ' => ∀ cls dx σ' Z' H' Fs', SOk g.K Z' H' ρ' σ' Fs' → Ag ws σ σ' → XR g Z' H' C x cls dx → Stp Z F H Z' (Tot Fs') H' → E cls dx σ' H'
  | .no => False
end
abbrev SS := Sl → SR
def tS (g : G0) (E : WX) (ws : List Nat) (s : SS) : TS := fun D σ H => ∃ Z ρ Fs, SOk g.K Z H ρ σ Fs ∧ PSR g E ws σ D (s ρ) Z (Tot Fs) H
/-- from an expression's result on -/
def bs {α : Type} : R α → (α → Sl → SR) → SR
  | .ok a ρ, f => f a ρ
  | .ex C x ρ, _ => .ex C x ρ
  | .no, _ => .no
@[simp] theorem bs_ok {α : Type} (a : α) (ρ : Sl) (f : α → Sl → SR) : bs (.ok a ρ) f = f a ρ := rfl
@[simp] theorem bs_ex {α : Type} (C : Nat) (x : PyData) (ρ : Sl) (f : α → Sl → SR) : bs (.ex C x ρ) f = .ex C x ρ := rfl
@[simp] theorem bs_no {α : Type} (f : α → Sl → SR) : bs .no f = .no := rfl
section
variable {g : G0} {E : WX} {ws : List Nat} {σ σ1 : L2.St} {D : Ends} {Z F Z1 F1 : Addr → Prop} {H H1 : Hp}
theorem PSR.step {r : SR} (h : PSR g E ws σ D r Z F H) (a : Ag ws σ σ1) (st : Stp Z F H Z1 F1 H1) : PSR g E ws σ1 D r Z1 F1 H1 := by
  cases r with
  | nx ρ' => exact fun σ' Z' H' Fs' s q t => h σ' Z' H' Fs' s (a.trans q) (st.trans t)
  | bk ρ' => exact fun σ' Z' H' Fs' s q t => h σ' Z' H' Fs' s (a.trans q) (st.trans t)
  | ct ρ' => exact fun σ' Z' H' Fs' s q t => h σ' Z' H' Fs' s (a.trans q) (st.trans t)
  | rt w ρ' => exact fun v σ' Z' H' Fs' T s q r1 r2 r3 r4 t => h v σ' Z' H' Fs' T s (a.trans q) r1 r2 r3 r4 (st.trans t)
  | ex C x ρ' => exact fun cls dx σ' Z' H' Fs' s q r1 t => h cls dx σ' Z' H' Fs' s (a.trans q) r1 (st.trans t)
  | no => exact h
theorem PSR.b0 {α β : Type} {Rp : (Addr → Prop) → Hp → α → β → Prop} {r : R α} {f : α → Sl → SR} (h : PSR g E ws σ D (bs r f) Z F H) :
    PR0 g E σ Rp r Z F H (Mid g E σ Rp r Z F H fun a ρ1 Z1 Fs1 H1 => PSR g E ws σ D (f a ρ1) Z1 (Tot Fs1) H1) := by
  cases r with
  | ok a ρ' => exact fun b Z' H' Fs' s q1 t => ⟨a, ρ', Z', Fs', s, q1, rfl, t, PSR.step (r := f a ρ') h .refl t⟩
  | ex C x ρ' => exact fun cls dx Z' H' Fs' s q t => h cls dx σ Z' H' Fs' s .refl q t
  | no => exact h
def MidW (g : G0) (σ : L2.St) (Z F : Addr → Prop) (H : Hp) (nx : W → Sl → Prop) (v : V) (H1 : Hp) : Prop :=
  ∃ w ρ1 Z1 Fs1 T, SOk g.K Z1 H1 ρ1 σ Fs1 ∧ RW g.K Z1 H1 w v T ∧ T.Nodup ∧ (∀ c ∈ T, ¬ Z1 c) ∧ (∀ c ∈ T, ¬ Tot Fs1 c) ∧ Stp Z F H Z1 (fun c => Tot Fs1 c ∨ c ∈ T) H1 ∧ nx w ρ1
theorem PSR.bW {r : R W} {f : W → Sl → SR} (h : PSR g E ws σ D (bs r f) Z F H) : PR g E σ (rW g) r Z F H (MidW g σ Z F H fun w ρ1 => PSR g E ws σ D (f w ρ1) Z F H) := by
  cases r with
  | ok a ρ' => exact fun b Z' H' Fs' T s q1 q2 q3 q4 t => ⟨a, ρ', Z', Fs', T, s, q1, q2, q3, q4, t, h⟩
  | ex C x ρ' => exact fun cls dx Z' H' Fs' s q t => h cls dx σ Z' H' Fs' s .refl q t
  | no => exact h
end
/-! ### where a statement stands -/
structure Ctl (X : Cx) : Prop where
  hs : X.stack = X.env :: X.outer
  hf : X.env.frame = some X.env.locals
structure KS (pm : Pm) (ct : Ct) (ws : List Nat) (b : Stmt) (s : SS) : Prop where
  go : ∀ X E, XOk pm ct X → Ctl X → Takes X E → PassesOwn (model X.prog X.w) X.A X.env X.xe → PS X b (tS pm.g E ws s)
structure KSs (pm : Pm) (ct : Ct) (ws : List Nat) (b : List Stmt) (s : SS) : Prop where
  go : ∀ X E, XOk pm ct X → Ctl X → Takes X E → PassesOwn (model X.prog X.w) X.A X.env X.xe → PSs X b (tS pm.g E ws s)
def skp : SS := fun ρ => .nx ρ
def sqS (a b : SS) : SS := fun ρ => match a ρ with
  | .nx ρ1 => b ρ1
  | r => r
section
variable {pm : Pm} {ct : Ct} {ws : List Nat} {pos : Pos}
theorem kss_nil : KSs pm ct ws [] skp :=
  ⟨fun X E xo c tk po => pss_nil.imp fun D σ H ⟨Z, ρ, Fs, s, h⟩ => h σ Z H Fs s .refl .refl⟩
theorem kss_cons {b : Stmt} {r : List Stmt} {s u : SS} (h1 : KS pm ct ws b s) (h2 : KSs pm ct ws r u) : KSs pm ct ws (b :: r) (sqS s u) := by
  refine ⟨fun X E xo c tk po => (pss_cons (h1.go X E xo c tk po) (h2.go X E xo c tk po)).imp fun D σ H ⟨Z, ρ, Fs, ok, h⟩ => ⟨Z, ρ, Fs, ok, ?_⟩⟩
  unfold sqS at h
  cases e : s ρ with
  | nx ρ1 => 
    rw [e] at h
    exact fun σ' Z' H' Fs' s' a st => ⟨Z', ρ1, Fs', s', PSR.step (r := u ρ1) h a st⟩
  | _ => rw [e] at h; exact h
theorem ks_pass : KS pm ct ws (.Pass pos) skp := ⟨fun X E xo c tk po => ps_pass.imp fun D σ H ⟨Z, ρ, Fs, s, h⟩ => h σ Z H Fs s .refl .refl⟩
def brS : SS := fun ρ => .bk ρ
def cnS : SS := fun ρ => .ct ρ
theorem ks_break : KS pm ct ws (.Break pos) brS := ⟨fun X E xo c tk po => ps_break.imp fun D σ H ⟨Z, ρ, Fs, s, h⟩ => h σ Z H Fs s .refl .refl⟩
theorem ks_continue : KS pm ct ws (.Continue pos) cnS := ⟨fun X E xo c tk po => ps_continue.imp fun D σ H ⟨Z, ρ, Fs, s, h⟩ => h σ Z H Fs s .refl .refl⟩
/-! return -/
def rtS (s : SE) : SS := fun ρ => bs (s ρ) fun w ρ1 => .rt w ρ1
theorem ks_ret {e : Expr} {s : SE} (he : KE pm ct e s) : KS pm ct ws (.Return (some e) pos) (rtS s) := by
  refine ⟨fun X E xo c tk po => (ps_ret (he.go X E xo tk)).imp fun D σ H ⟨Z, ρ, Fs, ok, h⟩ => ?_⟩
  have h1 : PR pm.g E σ (rW pm.g) (s ρ) Z (Tot Fs) H D.rt := by
    unfold rtS at h
    cases e : s ρ with
    | ok w ρ1 => rw [e] at h; exact fun v Z' H' Fs' T s' q1 q2 q3 q4 t => h v σ Z' H' Fs' T s' .refl q1 q2 q3 q4 t
    | ex C x ρ1 => rw [e] at h; exact fun cls dx Z' H' Fs' s' q t => h cls dx σ Z' H' Fs' s' .refl q t
    | no => rw [e] at h; exact h
  exact ⟨Z, ρ, Fs, ok, h1⟩
/-! name = .. -/
def asS (i : Nat) (s : SE) : SS := fun ρ => bs (s ρ) fun w ρ1 => if i < ρ1.length then .nx (pt ρ1 i (some w)) else .no
/-- not a comprehension -/
def noComp : Expr → Bool
  | .ListComp .. => false
  | .SetComp .. => false
  | .DictComp .. => false
  | _ => true
theorem sw_no {e : Expr} {t : Option Expr} {n : Nat} {env : Env} (h : noComp e = true) : swapsWith e t n env = pure false := by
  cases e <;> first | rfl | cases h
theorem SOk.setStp {K : PySem.W.Frag} {Z F Z1 : Addr → Prop} {H H1 : Hp} {Fs : Nat → List Addr} {i : Nat} {T : List Addr} (st : Stp Z F H Z1 (fun c => Tot Fs c ∨ c ∈ T) H1) : Stp Z F H Z1 (Tot (setF Fs i T)) H1 :=
  st.wk (fun _ z => z) fun c ⟨j, z⟩ => by
    unfold setF at z
    split at z
    · exact .inl (.inr z)
    · exact .inl (.inl ⟨j, z⟩)
theorem as_read {E : WX} {i : Nat} {s : SE} {D : Ends} {σ : L2.St} {H : Hp} (hw : ws.contains i = true) (h : tS pm.g E ws (asS i s) D σ H) : tE pm.g E s σ H fun x H1 => gName i x σ H1 D.nx := by
  obtain ⟨Z, ρ, Fs, ok, h⟩ := h
  have imp : ∀ {r : R W} {Q Q' : VK}, PR pm.g E σ (rW pm.g) r Z (Tot Fs) H Q → (∀ v H, Q v H → Q' v H) → PR pm.g E σ (rW pm.g) r Z (Tot Fs) H Q' := fun {r Q Q'} h q => by
    cases r with
    | ok a ρ' => exact fun b Z' H' Fs' T s q1 q2 q3 q4 t => q _ _ (h b Z' H' Fs' T s q1 q2 q3 q4 t)
    | ex C x ρ' => exact h
    | no => exact h
  refine ⟨Z, ρ, Fs, ok, imp (PSR.bW h) ?_⟩
  rintro v H1 ⟨w, ρ1, Z1, Fs1, T, s1, r1, r2, r3, r4, st, h1⟩
  split at h1
  · rename_i hi
    exact h1 _ Z1 H1 _ (s1.setW hi r1 r2 r3 r4) (Ag.set hw) (SOk.setStp (K := pm.g.K) st)
  · exact h1.elim
theorem ks_set {x : Str} {i : Nat} {e : Expr} {s : SE} {p : Pos} (he : KE pm ct e s) (hn : ct.N[i]? = some x) (hv : stoB ct x = true) (hc : noComp e = true) (hw : ws.contains i = true) : KS pm ct ws (.Assign [.Name x p] e pos) (asS i s) := by
  refine ⟨fun X E xo c tk po => ?_⟩
  obtain ⟨h1, h2⟩ := sto_ok hv xo
  exact (ps_set (by rw [xo.hN]; exact xo.nd) (by rw [xo.hN]; exact hn) h1 (he.go X E xo tk) (sw_no hc) h2).imp fun D σ H h => as_read hw h
theorem ks_setLc {x : Str} {i : Nat} {tg iter elt : Expr} {ifs : List Expr} {ts : ST'} {us : List Nat} {cd : ST} {el : SD} {src : SI} {scope : Scope} {own : List (Str × Nat)} {p lp : Pos} (hi : KI pm ct tg iter src) (hg : KG pm (blkCt ct scope) tg ts us)
    (hc : KTs pm (blkCt ct scope) ifs cd) (he : KD pm (blkCt ct scope) elt el) (hb : blkC ct.N ct.sc scope own = true) (hu : us.all (fun j => (own.map (·.2)).contains j) = true) (hn : ct.N[i]? = some x) (hv : ct.sc.names.lookup x = some .local) (hw : ws.contains i = true)
    (hl : (p.line == lp.line) = true) (ha : (scope.names.any fun (n, k) => n == x && (k == .local || k == .cell)) = false) (hk : ct.sc.kind = .function) (hs : ∀ env v, foldedSetIterable iter env v = pure v := by intro _ _; rfl) :
    KS pm ct ws (.Assign [.Name x p] (.ListComp elt [⟨tg, iter, ifs, 0⟩] scope lp) pos) (asS i (compE (own.map (·.2)) ts cd el src)) := by
  refine ⟨fun X E xo c tk po => ?_⟩
  have hlk : X.env.scope.names.lookup x = some .local := by rw [xo.sc]; exact hv
  refine (ps_setLc xo.calm (by rw [xo.hN]; exact xo.nd) (by rw [xo.hN]; exact hn) hlk (sw_true (by rw [xo.sc]; exact hk) hlk hl ha) (hi.go X E xo tk) (by rw [xo.hN, xo.sc]; exact blkOk_by hb) (fun s H C cl fp => hg.go _ xo.blk) (fun s H C cl fp => hc.go _ _ xo.blk tk0) (fun s H C cl fp => he.go _ _ xo.blk tk0) (hs X.env)).imp fun D σ H h => ?_
  refine comp_read (fun j hj => ?_) (as_read hw h)
  exact List.contains_iff_mem.mp (List.all_eq_true.mp hu j hj)
/-! if -/
def ifS (c : ST) (a b : SS) : SS := fun ρ => bs (c ρ) fun d ρ1 => if d = true then a ρ1 else b ρ1
theorem ks_if {e : Expr} {p q : List Stmt} {c : ST} {s u : SS} (hc : KT pm ct e c) (ha : KSs pm ct ws p s) (hb : KSs pm ct ws q u) : KS pm ct ws (.If e p q pos) (ifS c s u) := by
  refine ⟨fun X E xo ct' tk po => (ps_if (hc.go X E xo tk) (ha.go X E xo ct' tk po) (hb.go X E xo ct' tk po)).imp fun D σ H ⟨Z, ρ, Fs, ok, h⟩ => ⟨Z, ρ, Fs, ok, (PSR.b0 h).imp ?_⟩⟩
  rintro b H1 ⟨d, ρ1, Z1, Fs1, s1, hb, -, st, h1⟩
  have hb : d = b := hb
  subst hb
  cases d with
  | true => exact ⟨Z1, ρ1, Fs1, s1, h1⟩
  | false => exact ⟨Z1, ρ1, Fs1, s1, h1⟩
/-! an expression as a statement -/
def exS (s : SE) : SS := fun ρ => bs (s ρ) fun _ ρ1 => .nx ρ1
theorem ks_expr {e : Expr} {s : SE} (he : KE pm ct e s) (hc : noComp e = true) : KS pm ct ws (.Expr e pos) (exS s) := by
  refine ⟨fun X E xo c tk po => (ps_expr (he.go X E xo tk) (sw_no hc)).imp fun D σ H ⟨Z, ρ, Fs, ok, h⟩ => ?_⟩
  refine ⟨Z, ρ, Fs, ok, ?_⟩
  unfold exS at h
  cases e : s ρ with
  | ok w ρ1 =>
    rw [e] at h
    exact fun v Z' H' Fs' T s' q1 q2 q3 q4 t => h σ Z' H' Fs' s' .refl (t.wk (fun _ z => z) fun c z => .inl (.inl z))
  | ex C x ρ1 => rw [e] at h; exact fun cls dx Z' H' Fs' s' q t => h cls dx σ Z' H' Fs' s' .refl q t
  | no => rw [e] at h; exact h
end
end Ev
set_option Elab.async false
set_option maxRecDepth 100000
set_option maxHeartbeats 4000000
/-! Ev14: lists changed in place, several targets, loops. -/
namespace Ev
open PySem PySem.Spec PyProof.Rows L2

theorem sws_no {t e : Expr} {n : Nat} {env : Env} (h : noComp e = true) : swapsWithSole [t] e n env = pure false := by
  show swapsWith e (some t) n env = _
  exact sw_no h
/-! ### a list of slot i grows, is set -/
def appE (i : Nat) (s : SD) : SE := fun ρ => match gt ρ i with
  | some (.fl _) => (s ρ).bd fun x ρ1 => match gt ρ1 i with
    | some (.fl xs) => if xs.length < 16777216 then .ok (.d .none) (pt ρ1 i (some (.fl (xs ++ [x])))) else .no
    | _ => .no
  | _ => .no
def siS (i : Nat) (s k : SD) : SS := fun ρ => bs (s ρ) fun x ρ1 => match gt ρ1 i with
  | some (.fl _) => bs (k ρ1) fun n ρ2 => match n, gt ρ2 i with
    | .int j, some (.fl xs) => match ixN xs.length j with
      | some m => .nx (pt ρ2 i (some (.fl (xs.set m x))))
      | none => .no
    | _, _ => .no
  | _ => .no
section
variable {pm : Pm} {ct : Ct} {ws : List Nat} {pos : Pos}
theorem ke_app {x : Str} {i : Nat} {p apos : Pos} {b : Expr} {sk : SD} (hn : ct.N[i]? = some x) (hv : visB ct.sc x = true) (hb : KD pm ct b sk) (hs : starB b = true) (hl : (apos.endLine == pos.line) = true) : KE pm ct (.Call (.Attribute (.Name x p) "append" apos) [b] [] pos) (appE i sk) := by
  refine ⟨fun X E xo t => (pe_bm PySem.F.plainAttrs_list PySem.F.slot_list_append PySem.F.type_list_append mt_append (pe_nm xo hn hv) (pa_cons (hb.go X E xo t) pa_nil (star_ok hs)) rfl ?_ hl (star_ok hs) rfl).imp fun σ H Q ⟨Z, ρ, Fs, ok, h⟩ => ?_⟩
  · rw [star_ok hs]
    rfl
  · unfold appE at h
    split at h
    · rename_i xs0 e0
      obtain ⟨q, vs0, hq, hH0, r0, hF0⟩ := ok.lstAt e0
      refine ⟨_, hq, .inl ⟨rfl, vs0, .inl (.inl hH0)⟩, Z, ρ, Fs, ok, (PR.bd h).imp ?_⟩
      rintro v H1 ⟨y, ρ1, Z1, Fs1, s1, hy, -, st, h1⟩
      split at h1
      · rename_i xs e1
        split at h1
        · rename_i hz
          obtain ⟨q1, vs, hq1, hH, r, hF⟩ := s1.lstAt e1
          rw [hq] at hq1
          cases hq1
          refine ⟨_, vs, v, rfl, rfl, hH, by rw [r.len, sizeLine_eq]; exact hz, ?_⟩
          have s2 := s1.wr e1 hq hH hF (r.app (.cons hy .nil))
          exact PR.fin (h1.step (Stp.wr hF hH)) s2 (.d .non)
        · exact h1.elim
      · exact h1.elim
    · exact h.elim
theorem ks_seti {x : Str} {i : Nat} {p q : Pos} {e b : Expr} {s sk : SD} (he : KD pm ct e s) (hn : ct.N[i]? = some x) (hv : visB ct.sc x = true) (hb : KD pm ct b sk) (hc : noComp e = true) (hp : ∀ (env : Env) v, assign (.Subscript (.Name x p) b q) env v = (do
      let ov ← holding [v] (eval (.Name x p) env)
      let iv ← holding [v, ov] (eval b env)
      standAt q
      holding [v, ov, iv] (setItem ov iv v)
      release [v, ov, iv] []) := by intro _ _; rfl) : KS pm ct ws (.Assign [.Subscript (.Name x p) b q] e pos) (siS i s sk) := by
  refine ⟨fun X E xo c tk po => (ps_asg (he.go X E xo tk) (pg_sub (pe_nm xo hn hv) (hb.go X E xo tk) set_list (hp X.env)) (sws_no hc) rfl rfl).imp fun D σ H ⟨Z, ρ, Fs, ok, h⟩ => ⟨Z, ρ, Fs, ok, (PSR.b0 h).imp ?_⟩⟩
  rintro v H1 ⟨y, ρ1, Z1, Fs1, s1, hy, -, st, h1⟩
  split at h1
  · rename_i xs0 e0
    obtain ⟨q, vs0, hq, hH0, r0, hF0⟩ := s1.lstAt e0
    refine ⟨_, hq, Z1, ρ1, Fs1, s1, (PSR.b0 h1).imp ?_⟩
    rintro v2 H2 ⟨n, ρ2, Z2, Fs2, s2, hn2, -, st2, h2⟩
    split at h2
    · rename_i j xs e1
      split at h2
      · rename_i m e2
        obtain ⟨q1, vs, hq1, hH, r, hF⟩ := s2.lstAt e1
        rw [hq] at hq1
        cases hq1
        have hy2 := st2.rd s1.zf hy
        refine ⟨_, vs, j, m, rfl, int_of hn2, hH, by rw [r.len]; exact e2, ?_⟩
        exact h2 σ Z2 _ Fs2 (s2.wr e1 hq hH hF (r.set hy2 m)) .refl (Stp.wr hF hH)
      · exact h2.elim
    · exact h2.elim
  · exact h1.elim
/-! a, b = x, y -/
def asTs (is : List Nat) (xs : List PyData) (ρ : Sl) : Option Sl := match is, xs with
  | [], [] => some ρ
  | i :: is, x :: xs => if i < ρ.length then asTs is xs (pt ρ i (some (.d x))) else none
  | _, _ => none
def parS (is : List Nat) (as : SA) : SS := fun ρ => bs (as ρ) fun os ρ1 => match dsO os with
  | some xs => match asTs is xs ρ1 with
    | some ρ2 => .nx ρ2
    | none => .no
  | none => .no
theorem asTs_ok {g : G0} {Z : Addr → Prop} {H : Hp} : ∀ {is : List Nat} {xs : List PyData} {vs : List V} {ρ ρ' : Sl} {σ : L2.St} {Fs : Nat → List Addr}, is.all (fun i => ws.contains i) = true → SOk g.K Z H ρ σ Fs → RDs g.K Z H xs vs → asTs is xs ρ = some ρ' →
    ∃ Fs', SOk g.K Z H ρ' ((is.zip vs).foldl (fun σ p => σ.set p.1 (some p.2)) σ) Fs' ∧ Ag ws σ ((is.zip vs).foldl (fun σ p => σ.set p.1 (some p.2)) σ) ∧ ∀ a, Tot Fs' a → Tot Fs a
  | [], [], _, _, _, _, Fs, _, s, .nil, e => by cases e; exact ⟨Fs, s, .refl, fun _ z => z⟩
  | i :: is, x :: xs, _, ρ, ρ', σ, Fs, hw, s, .cons (v := v) r rs, e => by
    unfold asTs at e
    simp only [List.all_cons, Bool.and_eq_true] at hw
    split at e
    · rename_i hi
      have s1 := s.setW (T := []) hi (.d r) .nil (fun _ z => nomatch z) fun _ z => nomatch z
      obtain ⟨Fs', a, b, c⟩ := asTs_ok hw.2 s1 rs e
      refine ⟨Fs', a, (Ag.set hw.1).trans b, fun q z => ?_⟩
      obtain ⟨j, y⟩ := c q z
      unfold setF at y
      split at y
      · cases y
      · exact ⟨j, y⟩
    · cases e
  | [], _ :: _, _, _, _, _, _, _, _, _, e => by cases e
  | _ :: _, [], _, _, _, _, _, _, _, _, e => by cases e
theorem asTs_len : ∀ {is : List Nat} {xs : List PyData} {ρ ρ' : Sl}, asTs is xs ρ = some ρ' → xs.length = is.length
  | [], [], _, _, _ => rfl
  | i :: is, x :: xs, ρ, _, e => by
    unfold asTs at e
    split at e
    · exact congrArg (· + 1) (asTs_len e)
    · cases e
  | [], _ :: _, _, _, e => by cases e
  | _ :: _, [], _, _, e => by cases e
theorem par_read {E : WX} {is : List Nat} {as : SA} {D : Ends} {σ : L2.St} {H : Hp} (hw : is.all (fun i => ws.contains i) = true) (h : tS pm.g E ws (parS is as) D σ H) :
    tA pm.g E as σ H fun vs H1 => vs.length = is.length ∧ D.nx ((is.zip vs).foldl (fun σ p => σ.set p.1 (some p.2)) σ) H1 := by
  obtain ⟨Z, ρ, Fs, ok, h⟩ := h
  refine ⟨Z, ρ, Fs, ok, (PSR.b0 h).imp ?_⟩
  rintro vs H1 ⟨os, ρ1, Z1, Fs1, s1, ho, -, st, h1⟩
  split at h1
  · rename_i xs e1
    split at h1
    · rename_i ρ2 e2
      have r := dsO_ok ho e1
      obtain ⟨Fs', a, b, c⟩ := asTs_ok hw s1 r e2
      refine ⟨?_, h1 _ Z1 H1 Fs' a b ((Stp.refl (Z := Z1) (F := Tot Fs1) (H := H1)).wk (fun _ z => z) fun q z => .inl (c q z))⟩
      rw [r.len]
      exact asTs_len e2
    · exact h1.elim
  · exact h1.elim
theorem ks_par2 {i j : Nat} {x y : Str} {a b : Expr} {as : SA} {px py p : Pos} {kt k2 : Nat} {p2 : Pos} (ha : KA pm ct [a, b] as) (hi : ct.N[i]? = some x) (hj : ct.N[j]? = some y) (hij : i ≠ j) (hx : ct.sc.names.lookup x = some .local) (hy : ct.sc.names.lookup y = some .local)
    (hw : [i, j].all (fun i => ws.contains i) = true) (hs : ∀ env : Env, env.scope = ct.sc → swappedStores [.Tuple [.Name x px, .Name y py] kt p] (.Tuple [a, b] k2 p2) env = pure (some [x, y])) :
    KS pm ct ws (.Assign [.Tuple [.Name x px, .Name y py] kt p] (.Tuple [a, b] k2 p2) pos) (parS [i, j] as) := by
  refine ⟨fun X E xo c tk po => (ps_par xo.calm (by rw [xo.hN]; exact xo.nd) (by rw [xo.hN]; exact hi) (by rw [xo.hN]; exact hj) hij (by rw [xo.sc]; exact hx) (by rw [xo.sc]; exact hy) (ha.go X E xo tk) (hs X.env xo.sc) rfl).imp fun D σ H h => ?_⟩
  obtain ⟨Z, ρ, Fs, ok, h⟩ := par_read hw h
  refine ⟨Z, ρ, Fs, ok, h.imp ?_⟩
  rintro vs H1 ⟨hl, q⟩
  match vs, hl, q with
  | [v, w], _, q => exact ⟨v, w, rfl, q⟩
theorem ks_par3 {i j l : Nat} {x y z : Str} {a b d : Expr} {as : SA} {px py pz p : Pos} {kt k2 : Nat} {p2 : Pos} (ha : KA pm ct [a, b, d] as) (hi : ct.N[i]? = some x) (hj : ct.N[j]? = some y) (hl : ct.N[l]? = some z) (hij : i ≠ j) (hil : i ≠ l) (hjl : j ≠ l)
    (hx : ct.sc.names.lookup x = some .local) (hy : ct.sc.names.lookup y = some .local) (hz : ct.sc.names.lookup z = some .local)
    (hw : [i, j, l].all (fun i => ws.contains i) = true) (hs : ∀ env : Env, env.scope = ct.sc → swappedStores [.Tuple [.Name x px, .Name y py, .Name z pz] kt p] (.Tuple [a, b, d] k2 p2) env = pure (some [x, y, z])) :
    KS pm ct ws (.Assign [.Tuple [.Name x px, .Name y py, .Name z pz] kt p] (.Tuple [a, b, d] k2 p2) pos) (parS [i, j, l] as) := by
  refine ⟨fun X E xo c tk po => (L2.ps_par3 xo.calm (by rw [xo.hN]; exact xo.nd) (by rw [xo.hN]; exact hi) (by rw [xo.hN]; exact hj) (by rw [xo.hN]; exact hl) hij hil hjl (by rw [xo.sc]; exact hx) (by rw [xo.sc]; exact hy) (by rw [xo.sc]; exact hz) (ha.go X E xo tk) (hs X.env xo.sc) rfl).imp fun D σ H h => ?_⟩
  obtain ⟨Z, ρ, Fs, ok, h⟩ := par_read hw h
  refine ⟨Z, ρ, Fs, ok, h.imp ?_⟩
  rintro vs H1 ⟨hl, q⟩
  match vs, hl, q with
  | [u, v, w], _, q => exact ⟨u, v, w, rfl, q⟩
/-! any target -/
def tgS (s : SD) (ts : ST') : SS := fun ρ => bs (s ρ) fun x ρ1 => match ts x ρ1 with
  | some ρ2 => .nx ρ2
  | none => .no
theorem ks_tgt {tg e : Expr} {s : SD} {ts : ST'} {us : List Nat} (he : KD pm ct e s) (hg : KG pm ct tg ts us) (hc : noComp e = true) (hu : us.all (fun i => ws.contains i) = true) (hw : ∀ env : Env, env.scope = ct.sc → swappedStores [tg] e env = pure none)
    (h1 : ∀ env : Env, (assignEach [tg] env).map (·.2) = [assign tg env] := by intro _; rfl) : KS pm ct ws (.Assign [tg] e pos) (tgS s ts) := by
  refine ⟨fun X E xo c tk po => (ps_asg (he.go X E xo tk) (hg.go X xo) (sws_no hc) (hw X.env xo.sc) (h1 X.env)).imp fun D σ H ⟨Z, ρ, Fs, ok, h⟩ => ⟨Z, ρ, Fs, ok, (PSR.b0 h).imp ?_⟩⟩
  rintro v H1 ⟨x, ρ1, Z1, Fs1, s1, hx, -, st, h1⟩
  refine ⟨Z1, ρ1, Fs1, x, s1, hx, ?_⟩
  cases e2 : ts x ρ1 with
  | none => rw [e2] at h1; exact h1.elim
  | some ρ2 =>
    rw [e2] at h1
    intro σ2 Fs2 s2 l2 a2 f2
    exact h1 σ2 Z1 H1 Fs2 s2 ⟨l2, fun j hj => a2 j fun z => hj (List.contains_iff_mem.mp (List.all_eq_true.mp hu j z))⟩ ((Stp.refl (Z := Z1) (F := Tot Fs1) (H := H1)).wk (fun _ z => z) fun q z => .inl (f2 q z))

/-! ### while -/
def whN (c : ST) (b : SS) : Nat → SS
  | 0, _ => .no
  | n + 1, ρ => bs (c ρ) fun d ρ1 => if d = true then match b ρ1 with
      | .nx ρ2 => whN c b n ρ2
      | .ct ρ2 => whN c b n ρ2
      | .bk ρ2 => .nx ρ2
      | r => r
    else .nx ρ1
open Classical in
noncomputable def whS (c : ST) (b : SS) : SS := fun ρ => if h : ∃ n, whN c b n ρ ≠ .no then whN c b (Classical.choose h) ρ else .no
theorem whN_mono {c : ST} {b : SS} : ∀ {n m : Nat} {ρ : Sl}, n ≤ m → whN c b n ρ ≠ .no → whN c b m ρ = whN c b n ρ
  | 0, _, _, _, h => absurd rfl h
  | n + 1, 0, _, hn, _ => absurd hn (Nat.not_succ_le_zero _)
  | n + 1, m + 1, ρ, hn, h => by
    unfold whN at h ⊢
    cases e : c ρ with
    | no => rfl
    | ex C x ρ1 => rfl
    | ok d ρ1 =>
      rw [e] at h
      simp only [bs_ok] at h ⊢
      cases d with
      | false => rfl
      | true =>
        simp only [if_true] at h ⊢
        cases e2 : b ρ1 with
        | nx ρ2 => rw [e2] at h; exact whN_mono (Nat.le_of_succ_le_succ hn) h
        | ct ρ2 => rw [e2] at h; exact whN_mono (Nat.le_of_succ_le_succ hn) h
        | _ => rfl
theorem whS_eq {c : ST} {b : SS} {n : Nat} {ρ : Sl} {r : SR} (h : whN c b n ρ = r) (hr : r ≠ .no) : whS c b ρ = r := by
  have hn : whN c b n ρ ≠ .no := by rw [h]; exact hr
  have he : ∃ n, whN c b n ρ ≠ .no := ⟨n, hn⟩
  unfold whS
  rw [dif_pos he]
  have hc := Classical.choose_spec he
  rcases Nat.le_total n (Classical.choose he) with z | z
  · rw [whN_mono z hn, h]
  · rw [← whN_mono z hc, h]
theorem ks_while {e : Expr} {body : List Stmt} {c : ST} {b : SS} (hc : KT pm ct e c) (hb : KSs pm ct ws body b) : KS pm ct ws (.While e body [] pos) (whS c b) := by
  refine ⟨fun X E xo ctl tk po => (ps_while po (hc.go X E xo tk) (hb.go X E xo ctl tk po)).imp fun D σ H ⟨Z, ρ, Fs, ok, h⟩ => ?_⟩
  unfold whS at h
  split at h
  · rename_i he
    generalize Classical.choose he = n0 at h
    generalize hr : whN c b n0 ρ = r at h
    refine ⟨fun m σ' H' => ∃ Z' ρ' Fs', SOk pm.g.K Z' H' ρ' σ' Fs' ∧ Ag ws σ σ' ∧ Stp Z (Tot Fs) H Z' (Tot Fs') H' ∧ whN c b m ρ' = r, ⟨n0, Z, ρ, Fs, ok, .refl, .refl, hr⟩, ?_⟩
    rintro m σ1 H1 ⟨Z1, ρ1, Fs1, s1, a1, st1, e1⟩
    refine ⟨Z1, ρ1, Fs1, s1, ?_⟩
    have h1 : PSR pm.g E ws σ1 D r Z1 (Tot Fs1) H1 := h.step a1 st1
    rw [← e1] at h1
    cases m with
    | zero => exact h1.elim
    | succ m =>
      unfold whN at e1 h1
      refine (PSR.b0 h1).imp ?_
      rintro d' H2 ⟨d, ρ2, Z2, Fs2, s2, hd, ec, st2, h2⟩
      have hd : d = d' := hd
      subst hd
      rw [ec] at e1
      simp only [bs_ok] at e1
      cases d with
      | false => exact h2 σ1 Z2 H2 Fs2 s2 .refl .refl
      | true =>
        simp only [if_true] at e1 h2
        rw [if_pos rfl]
        refine ⟨fun σ' H' => ∃ Z' ρ' Fs', SOk pm.g.K Z' H' ρ' σ' Fs' ∧ Ag ws σ σ' ∧ Stp Z (Tot Fs) H Z' (Tot Fs') H' ∧ whN c b m ρ' = r, fun σ' H' q => ⟨m, Nat.lt_succ_self m, q⟩, Z2, ρ2, Fs2, s2, ?_⟩
        cases eb : b ρ2 with
        | nx ρ3 => rw [eb] at e1; exact fun σ3 Z3 H3 Fs3 s3 a3 st3 => ⟨Z3, ρ3, Fs3, s3, a1.trans a3, (st1.trans st2).trans st3, e1⟩
        | ct ρ3 => rw [eb] at e1; exact fun σ3 Z3 H3 Fs3 s3 a3 st3 => ⟨Z3, ρ3, Fs3, s3, a1.trans a3, (st1.trans st2).trans st3, e1⟩
        | bk ρ3 => rw [eb] at h2; exact h2
        | rt w ρ3 => rw [eb] at h2; exact h2
        | ex C x ρ3 => rw [eb] at h2; exact h2
        | no => rw [eb] at h2; exact h2
  · exact h.elim

/-! ### for -/
def forGo (tg : ST') (b : SS) : List PyData → SS
  | [], ρ => .nx ρ
  | x :: xs, ρ => match tg x ρ with
    | none => .no
    | some ρ1 => match b ρ1 with
      | .nx ρ2 => forGo tg b xs ρ2
      | .ct ρ2 => forGo tg b xs ρ2
      | .bk ρ2 => .nx ρ2
      | r => r
def forS (tg : ST') (src : SI) (b : SS) : SS := fun ρ => bs (src ρ) fun sr ρ1 => match sr.2 with
  | [] => forGo tg b sr.1 ρ1
  | _ => .no
theorem PSR.bI {g : G0} {E : WX} {σ : L2.St} {D : Ends} {Z F : Addr → Prop} {H : Hp} {r : R Sr} {f : Sr → SS} (h : PSR g E ws σ D (bs r f) Z F H) :
    PRS g E σ r Z F H fun J H1 => ∃ sr ρ1 Z1 Fs1 Hd, SOk g.K Z1 H1 ρ1 σ Fs1 ∧ Jok g J Hd sr.1 ∧ Hd Z1 H1 ∧ (∀ F Z2 F2 H2, (∀ a, F a → Tot (hideF sr.2 Fs1) a) → Stp Z1 F H1 Z2 F2 H2 → Hd Z2 H2) ∧ PSR g E ws σ D (f sr ρ1) Z1 (Tot Fs1) H1 := by
  cases r with
  | ok sr ρ1 => exact fun J Z' H' Fs' Hd s q1 q2 q3 t => ⟨sr, ρ1, Z', Fs', Hd, s, q1, q2, q3, PSR.step (r := f sr ρ1) h .refl t⟩
  | ex C x ρ' => exact fun cls dx Z' H' Fs' s q t => h cls dx σ Z' H' Fs' s .refl q t
  | no => exact h
theorem hideF_nil {Fs : Nat → List Addr} : hideF [] Fs = Fs := by
  funext k
  unfold hideF
  exact if_neg (fun z => nomatch z)
theorem ks_for {tg iter : Expr} {body : List Stmt} {ts : ST'} {us : List Nat} {src : SI} {b : SS} (hi : KI pm ct tg iter src) (hg : KG pm ct tg ts us) (hb : KSs pm ct ws body b) (hu : us.all (fun i => ws.contains i) = true) (hs : ∀ env v, foldedSetIterable iter env v = pure v := by intro _ _; rfl) :
    KS pm ct ws (.For tg iter body [] pos) (forS ts src b) := by
  refine ⟨fun X E xo ctl tk po => (ps_for po xo.calm (hi.go X E xo tk) (hg.go X xo) (hb.go X E xo ctl tk po) (hs X.env)).imp fun D σ H ⟨Z, ρ, Fs, ok, h⟩ => ⟨Z, ρ, Fs, ok, ?_⟩⟩
  have imp : ∀ {r : R Sr} {Q Q' : It → Hp → Prop}, PRS pm.g E σ r Z (Tot Fs) H Q → (∀ v H, Q v H → Q' v H) → PRS pm.g E σ r Z (Tot Fs) H Q' := fun {r Q Q'} h q => by
    cases r with
    | ok sr ρ1 => exact fun J Z' H' Fs' Hd s q1 q2 q3 t => q _ _ (h J Z' H' Fs' Hd s q1 q2 q3 t)
    | ex C x ρ' => exact h
    | no => exact h
  refine imp (PSR.bI h) ?_
  rintro J H1 ⟨⟨xs, ln⟩, ρ1, Z1, Fs1, Hd, s1, jok, hd, hkeep, h1⟩
  cases ln with
  | cons _ _ => exact h1.elim
  | nil =>
    have h1 : PSR pm.g E ws σ D (forGo ts b xs ρ1) Z1 (Tot Fs1) H1 := h1
    generalize hr : forGo ts b xs ρ1 = r at h1
    refine ⟨fun i m σ' H' => m = xs.length - i ∧ i ≤ xs.length ∧ ∃ Z' ρ' Fs', SOk pm.g.K Z' H' ρ' σ' Fs' ∧ Ag ws σ σ' ∧ Stp Z1 (Tot Fs1) H1 Z' (Tot Fs') H' ∧ forGo ts b (xs.drop i) ρ' = r, ⟨xs.length, by simp, Nat.zero_le _, Z1, ρ1, Fs1, s1, .refl, .refl, hr⟩, ?_⟩
    rintro i m σ2 H2 ⟨rfl, hi, Z2, ρ2, Fs2, s2, a2, st2, e2⟩
    have hd2 : Hd Z2 H2 := hkeep (Tot Fs1) Z2 _ H2 (fun a z => by show Tot (hideF [] Fs1) a; rw [hideF_nil]; exact z) st2
    obtain ⟨j1, j2, j3⟩ := jok Z2 H2 hd2
    have h2 : PSR pm.g E ws σ2 D r Z2 (Tot Fs2) H2 := h1.step a2 st2
    by_cases hlt : i < xs.length
    · refine .inr ⟨j1 i hlt, fun σ' H' => ∃ Z' ρ' Fs', SOk pm.g.K Z' H' ρ' σ' Fs' ∧ Ag ws σ σ' ∧ Stp Z1 (Tot Fs1) H1 Z' (Tot Fs') H' ∧ forGo ts b (xs.drop (i + 1)) ρ' = r, fun σ' H' q => ⟨xs.length - (i + 1), by omega, rfl, hlt, q⟩, fun v H' y => ?_⟩
      obtain ⟨x, hx, yl⟩ := j3 i v H' hlt y
      obtain ⟨Z3, s3, rx, st3⟩ := yl.step s2 s2.zf
      have ed : xs.drop i = x :: xs.drop (i + 1) := by
        rw [List.drop_eq_getElem_cons hlt]
        congr 1
        have hx' : xs[i]? = some x := hx
        rw [List.getElem?_eq_getElem hlt] at hx'
        exact Option.some.inj hx'
      rw [ed] at e2
      unfold forGo at e2
      have h3 : PSR pm.g E ws σ2 D r Z3 (Tot Fs2) H' := h2.step .refl st3
      rw [← e2] at h3
      refine ⟨Z3, ρ2, Fs2, x, s3, rx, ?_⟩
      cases e3 : ts x ρ2 with
      | none => rw [e3] at h3; exact h3.elim
      | some ρ3 =>
        rw [e3] at e2 h3
        intro σ4 Fs4 s4 l4 k4 f4
        have a4 : Ag ws σ2 σ4 := ⟨l4, fun j hj => k4 j fun z => hj (List.contains_iff_mem.mp (List.all_eq_true.mp hu j z))⟩
        have st4 : Stp Z3 (Tot Fs2) H' Z3 (Tot Fs4) H' := Stp.refl.wk (fun _ z => z) fun c z => .inl (f4 c z)
        have h4 := h3.step a4 st4
        refine ⟨Z3, ρ3, Fs4, s4, ?_⟩
        have e2 : (match b ρ3 with | .nx ρ2 => forGo ts b (xs.drop (i + 1)) ρ2 | .ct ρ2 => forGo ts b (xs.drop (i + 1)) ρ2 | .bk ρ2 => .nx ρ2 | r => r) = r := e2
        have h4 : PSR pm.g E ws σ4 D (match b ρ3 with | .nx ρ2 => forGo ts b (xs.drop (i + 1)) ρ2 | .ct ρ2 => forGo ts b (xs.drop (i + 1)) ρ2 | .bk ρ2 => .nx ρ2 | r => r) Z3 (Tot Fs4) H' := h4
        cases eb : b ρ3 with
        | nx ρ5 => rw [eb] at e2; exact fun σ5 Z5 H5 Fs5 s5 a5 st5 => ⟨Z5, ρ5, Fs5, s5, (a2.trans a4).trans a5, ((st2.trans st3).trans st4).trans st5, e2⟩
        | ct ρ5 => rw [eb] at e2; exact fun σ5 Z5 H5 Fs5 s5 a5 st5 => ⟨Z5, ρ5, Fs5, s5, (a2.trans a4).trans a5, ((st2.trans st3).trans st4).trans st5, e2⟩
        | bk ρ5 => rw [eb] at h4; exact h4
        | rt w ρ5 => rw [eb] at h4; exact h4
        | ex C x ρ5 => rw [eb] at h4; exact h4
        | no => rw [eb] at h4; exact h4
    · have hil : i = xs.length := by omega
      subst hil
      refine .inl ⟨j2 _ (Nat.le_refl _), ?_⟩
      rw [List.drop_length] at e2
      unfold forGo at e2
      rw [← e2] at h2
      exact h2 σ2 Z2 H2 Fs2 s2 .refl .refl
end
end Ev
set_option Elab.async false
set_option maxRecDepth 100000
set_option maxHeartbeats 4000000
/-! Ev15: errors raised and caught; a def keeps its promise. -/
namespace Ev
open PySem PySem.Spec PyProof.Rows L2

/-! ### an error is made, raised -/
theorem mkO_of {K : PySem.W.Frag} {D C : Addr} {vs : List V} {H1 : Hp} {Q : XK} (ec : ErrC K D C) (h : ∃ v, vs = [v] ∧ ∀ dx, H1 dx = none → Q (.ref C) (some dx) (upd H1 dx (.xd [("value", v)]))) :
    vs.length ≤ 1000 ∧ ∀ a, H1 a = none → spErr K D (.ref a :: (vs ++ [])) (upd H1 a (exo a C none))
      (fun v H2 => v = .non ∧ ∃ (d : Addr) (fs : List (Str × V)), H2 a = some (exo a C (some d)) ∧ H2 d = some (exd d fs) ∧ H1 d = none ∧ Q (.ref C) (some d) (upd (del H2 a) d (.xd fs))) (fun _ _ _ => False) := by
  obtain ⟨v, rfl, h⟩ := h
  refine ⟨by simp, fun a ha => ⟨a, C, v, rfl, ec, upd_same, fun dx hd hne => ⟨rfl, dx, [("value", v)], upd_same, ?_, ?_, ?_⟩⟩⟩
  · rw [upd_ne hne, upd_same]
  · rw [upd_ne hne] at hd
    exact hd
  · have hd1 : H1 dx = none := by
      rw [upd_ne hne] at hd
      exact hd
    have e : upd (del (upd (upd (upd H1 a (exo a C none)) dx (exd dx [("value", v)])) a (exo a C (some dx))) a) dx (.xd [("value", v)]) = upd H1 dx (.xd [("value", v)]) := by
      funext b
      by_cases hb : b = dx
      · rw [hb, upd_same, upd_same]
      · rw [upd_ne hb, upd_ne hb]
        by_cases ha' : b = a
        · rw [ha', del_same, ha]
        · rw [del_ne ha', upd_ne ha', upd_ne hb, upd_ne ha']
    rw [e]
    exact h dx hd1
def raS (C : Nat) (s : SD) : SS := fun ρ => bs (s ρ) fun x ρ1 => .ex C x ρ1
section
variable {pm : Pm} {ct : Ct} {ws : List Nat} {pos : Pos}
theorem ks_raise {C : Nat} {x : Str} {e : Expr} {s : SD} {p cp : Pos} (he : KD pm ct e s) (hx : pm.XN C = some x) (hg : glB ct.sc x = true) (hs : starB e = true) (hl : 1 ≤ pm.lv) : KS pm ct ws (.Raise (some (.Call (.Name x p) [e] [] cp)) none pos) (raS C s) := by
  refine ⟨fun X E xo c tk po => ?_⟩
  obtain ⟨h4, h5⟩ := glB_ok hg xo.sc
  have xi := xo.exc C x hx
  obtain ⟨D, fI, fd, ps, ec, h1, h2, hb, F⟩ := xi.made
  refine (ps_raise xo.calm tk (pmk_oex (CX := L2.CX X.prog X.w) ec.oex h1 h2 F (xo.room.mono hl) hb .nil (fun pins σ H s e s' I c => by
    obtain ⟨_, _, _, _, _, _, _, _, _, _, _, _, z⟩ := c
    exact z.elim) h4 xi.nm (pa_cons (he.go X E xo tk) pa_nil (star_ok hs)) h5 (star_ok hs) rfl)).imp fun D' σ H ⟨Z, ρ, Fs, ok, h⟩ => ⟨Z, ρ, Fs, ok, (PSR.b0 h).imp ?_⟩
  rintro v H1 ⟨y, ρ1, Z1, Fs1, s1, hy, -, st, h1⟩
  have key : ∀ dx, H1 dx = none → E (.ref (pm.g.CA C)) (some dx) σ (upd H1 dx (.xd [("value", v)])) := fun dx hd =>
    h1 (.ref (pm.g.CA C)) (some dx) σ _ _ Fs1 (s1.new hd) .refl ⟨rfl, dx, v, rfl, upd_same, .inr rfl, hy.keep (fun _ z => .inl z) fun a o _ q => by rw [upd_ne (ne_of_none q hd)]; exact q⟩ (Stp.new hd)
  exact mkO_of (Q := fun cls d H' => E cls d σ H') ec ⟨v, rfl, key⟩

/-! ### try: body / except C as n: c = n -/
def trS (XN : Nat → Option Str) (sub : Nat → Nat → Bool) (b : SS) (C n c : Nat) : SS := fun ρ => match b ρ with
  | .ex C1 x ρ1 => if (XN C1).isSome = false then .no else if sub C1 C = true then if n < ρ1.length ∧ c < ρ1.length then .nx (pt (pt ρ1 n none) c (some (.ex C1 x))) else .no else .ex C1 x ρ1
  | r => r
theorem XOk.tr {X : Cx} (xo : XOk pm ct X) {pn : List (Addr × Obj)} {xe : Value → Shared → Prop} : XOk pm ct (X.tr pn xe) :=
  ⟨xo.hK, xo.hN, xo.nd, xo.sc, xo.fn, xo.calm, xo.room, xo.gd, xo.free, xo.con, xo.defs, xo.exc, xo.exm⟩
theorem SOk.drop {K : PySem.W.Frag} {Z : Addr → Prop} {H : Hp} {ρ : Sl} {σ σ' : L2.St} {Fs : Nat → List Addr} {i : Nat} (s : SOk K Z H ρ σ Fs) (hl : σ'.length = σ.length) (h : ∀ j, j ≠ i → σ'[j]? = σ[j]?) : SOk K Z H (pt ρ i none) σ' (setF Fs i []) where
  len := by rw [pt_len, hl]; exact s.len
  here := fun j w e => by
    by_cases hj : j = i
    · subst hj
      by_cases hlt : j < ρ.length
      · rw [gt_pt_same hlt] at e; cases e
      · rw [gt_out (by rw [pt_len]; omega)] at e; cases e
    · rw [gt_pt_ne hj] at e
      rw [setF_ne hj, h j hj]
      exact s.here j w e
  gone := fun j e => by
    by_cases hj : j = i
    · subst hj
      exact setF_same
    · rw [gt_pt_ne hj] at e
      rw [setF_ne hj]
      exact s.gone j e
  dis := fun j k a n h1 h2 => by
    unfold setF at h1 h2
    split at h1
    · cases h1
    · split at h2
      · cases h2
      · exact s.dis j k a n h1 h2
  nd := fun j => by
    unfold setF
    split
    · exact .nil
    · exact s.nd j
  nz := fun j a h1 => by
    unfold setF at h1
    split at h1
    · cases h1
    · exact s.nz j a h1
  zd := s.zd
theorem ks_try {x n c : Str} {C i j : Nat} {body : List Stmt} {b : SS} {np p1 p2 p3 hp : Pos} (hb : KSs pm ct ws body b) (hx : pm.XN C = some x) (hg : glB ct.sc x = true) (hi : ct.N[i]? = some n) (hj : ct.N[j]? = some c) (hij : i ≠ j)
    (hn : ct.sc.names.lookup n = some .local) (hc : ct.sc.names.lookup c = some .local) (hw : ws.contains i = true) (hw2 : ws.contains j = true) (hv : visB ct.sc n = true) :
    KS pm ct ws (.Try body [.ExceptHandler (some (.Name x np)) (some n) [.Assign [.Name c p1] (.Name n p2) p3] hp] [] [] pos) (trS pm.XN pm.sub b C i j) := by
  refine ⟨fun X E xo ctl tk po => ?_⟩
  obtain ⟨h4, h5⟩ := glB_ok hg xo.sc
  have xi := xo.exc C x hx
  have hln : X.env.kindOf n = some .local := by show X.env.scope.names.lookup n = _; rw [xo.sc]; exact hn
  have hlc : X.env.scope.names.lookup c = some .local := by rw [xo.sc]; exact hc
  obtain ⟨v1, v2, v3⟩ := visB_ok hv
  refine (ps_try_as (i := i) (c := .ref (pm.g.CA C)) (tb := fun W => tS pm.g W ws b) (ts := fun _ _ _ => tAsg (tVar i) (gName j)) ctl.hs ctl.hf (by rw [xo.hN]; exact xo.nd) (by rw [xo.hN]; exact hi) hln ⟨h4, h5, .inl xi.nm⟩ tk
    (fun W pn xe tw pw => hb.go (X.tr pn xe) W xo.tr ⟨ctl.hs, ctl.hf⟩ tw pw)
    (fun a oe cls d pn _ _ => pss_one (ps_set (by show X.N.Nodup; rw [xo.hN]; exact xo.nd) (by show X.N[j]? = _; rw [xo.hN]; exact hj) (.inl hlc) (pe_var (by show X.N[i]? = _; rw [xo.hN]; exact hi) (by show Vis X.env.scope n; rw [xo.sc]; exact v1) v2 v3) rfl (.inr hlc)))).imp fun D σ H ⟨Z, ρ, Fs, ok, h⟩ => ?_
  refine ⟨Z, ρ, Fs, ok, ?_⟩
  unfold trS at h
  cases eb : b ρ with
  | nx ρ1 => rw [eb] at h; exact h
  | rt w ρ1 => rw [eb] at h; exact h
  | bk ρ1 => rw [eb] at h; exact h
  | ct ρ1 => rw [eb] at h; exact h
  | no => rw [eb] at h; exact h
  | ex C1 y ρ1 =>
    rw [eb] at h
    intro cls dx σ' Z' H' Fs' s' ag xr st
    have hcls := xr.1
    have h : PSR pm.g E ws σ D (if (pm.XN C1).isSome = false then .no else if pm.sub C1 C = true then if i < ρ1.length ∧ j < ρ1.length then .nx (pt (pt ρ1 i none) j (some (.ex C1 y))) else .no else .ex C1 y ρ1) Z (Tot Fs) H := h
    split at h
    · exact h.elim
    rename_i hs1
    obtain ⟨x1, hx1⟩ := Option.isSome_iff_exists.mp (Bool.not_eq_false _ |>.mp hs1)
    refine ⟨pm.sub C1 C, by rw [hcls]; exact xo.exm C1 x1 C x hx1 hx, fun hsub a ha => ?_, fun hsub => ?_⟩
    · simp only [hsub, if_true] at h
      split at h
      · rename_i hlt
        have hσi : i < σ'.length := by rw [s'.len]; exact hlt.1
        refine ⟨.ref a, List.getElem?_set_self hσi, ?_⟩
        have s2 := s'.drop (i := i) (σ' := ((σ'.set i (some (.ref a))).set j (some (.ref a))).set i none |>.set j (σ'[j]?.join)) (by simp) (fun k hk => by
          by_cases hkj : k = j
          · subst hkj
            have hlt2 : k < σ'.length := by rw [s'.len]; exact hlt.2
            rw [List.getElem?_set_self (by simpa using hlt2), List.getElem?_eq_getElem hlt2]
            rfl
          · rw [List.getElem?_set_ne (Ne.symm hkj), List.getElem?_set_ne (Ne.symm hk), List.getElem?_set_ne (Ne.symm hkj), List.getElem?_set_ne (Ne.symm hk)])
        have s3 := s2.setW (i := j) (w := .ex C1 y) (v := .ref a) (T := []) (by rw [pt_len]; exact hlt.2) .ex .nil (fun _ z => nomatch z) fun _ z => nomatch z
        have e3 : (((σ'.set i (some (.ref a))).set j (some (.ref a))).set i none |>.set j (σ'[j]?.join)).set j (some (V.ref a)) = ((σ'.set i (some (.ref a))).set j (some (.ref a))).set i none := by
          rw [List.set_set]
          apply List.ext_getElem?
          intro k
          by_cases hkj : k = j
          · subst hkj
            have hlt2 : k < σ'.length := by rw [s'.len]; exact hlt.2
            rw [List.getElem?_set_self (by simpa using hlt2), List.getElem?_set_ne hij, List.getElem?_set_self (by simpa using hlt2)]
          · rw [List.getElem?_set_ne (Ne.symm hkj)]
        rw [e3] at s3
        refine h _ Z' H' _ s3 ((ag.trans (Ag.set hw)).trans ((Ag.set hw2).trans (Ag.set hw))) (st.wk (fun _ z => z) fun q ⟨k, z⟩ => .inl ?_)
        unfold setF at z
        split at z
        · cases z
        · split at z
          · cases z
          · exact ⟨k, z⟩
      · exact h.elim
    · rw [hsub] at h
      simp only [Bool.false_eq_true, if_false] at h
      exact h cls dx σ' Z' H' Fs' s' ag xr st
end
end Ev
set_option Elab.async false
set_option maxRecDepth 100000
set_option maxHeartbeats 4000000
/-! Ev16: a def keeps its promise. -/
namespace Ev
open PySem PySem.Spec PyProof.Rows L2

/-! ### the body's slots, the arguments' slots -/
theorem gt_app {ρ : Sl} {m i : Nat} : gt (ρ ++ List.replicate m none) i = gt ρ i := by
  rw [gt_eq, gt_eq]
  by_cases h : i < ρ.length
  · rw [List.getElem?_append_left h]
  · rw [List.getElem?_append_right (by omega), List.getElem?_eq_none (l := ρ) (by omega), List.getElem?_replicate]
    split <;> rfl
theorem gt_take {ρ : Sl} {n i : Nat} : gt (ρ.take n) i = if i < n then gt ρ i else none := by
  rw [gt_eq, gt_eq, List.getElem?_take]
  split <;> rfl
section
variable {K : PySem.W.Frag} {Z : Addr → Prop} {H : Hp} {ρ : Sl} {σ : L2.St} {Fs : Nat → List Addr}
theorem SOk.more (s : SOk K Z H ρ σ Fs) (m : Nat) : SOk K Z H (ρ ++ List.replicate m none) (σ ++ List.replicate m none) Fs where
  len := by rw [List.length_append, List.length_append, s.len, List.length_replicate, List.length_replicate]
  here := fun i w e => by
    rw [gt_app] at e
    obtain ⟨v, h1, h2⟩ := s.here i w e
    refine ⟨v, ?_, h2⟩
    rw [List.getElem?_append_left (by rw [s.len]; exact gt_lt e)]
    exact h1
  gone := fun i e => s.gone i (by rw [gt_app] at e; exact e)
  dis := s.dis
  nd := s.nd
  nz := s.nz
  zd := s.zd
/-- the first ones, those of ws not -/
theorem SOk.fin {ws : List Nat} {vs : List V} {N : List Str} (s : SOk K Z H ρ σ Fs) (ag : Ag ws (L2.start N vs) σ) : SOk K Z H ((Ev.hide ws ρ).take vs.length) (vs.map some) (fun k => if k < vs.length then hideF ws Fs k else []) where
  len := by
    have h1 : (L2.start N vs).length = ρ.length := by rw [← ag.len, s.len]
    unfold L2.start at h1
    rw [List.length_append, List.length_map, List.length_replicate] at h1
    rw [List.length_map, List.length_take, hide_len]
    omega
  here := fun k w e => by
    rw [gt_take] at e
    split at e
    · rename_i hk
      rw [gt_hide] at e
      split at e
      · cases e
      · rename_i hw
        obtain ⟨v, h1, h2⟩ := s.here k w e
        refine ⟨v, ?_, ?_⟩
        · rw [ag.out k hw] at h1
          unfold L2.start at h1
          rw [List.getElem?_append_left (by rw [List.length_map]; exact hk)] at h1
          exact h1
        · rw [if_pos hk]
          unfold hideF
          rw [if_neg hw]
          exact h2
    · cases e
  gone := fun k e => by
    show (if k < vs.length then hideF ws Fs k else []) = []
    rw [gt_take] at e
    split
    · rename_i hk
      rw [if_pos hk, gt_hide] at e
      unfold hideF
      split
      · rfl
      · rename_i hw
        rw [if_neg hw] at e
        exact s.gone k e
    · rfl
  dis := fun i j a n h h' => by
    have h : a ∈ (if i < vs.length then hideF ws Fs i else []) := h
    have h' : a ∈ (if j < vs.length then hideF ws Fs j else []) := h'
    split at h
    · split at h'
      · exact s.dis i j a n (hideF_sub h).1 (hideF_sub h').1
      · cases h'
    · cases h
  nd := fun k => by
    show (if k < vs.length then hideF ws Fs k else []).Nodup
    split
    · unfold hideF
      split
      · exact .nil
      · exact s.nd k
    · exact .nil
  nz := fun k a h => by
    have h : a ∈ (if k < vs.length then hideF ws Fs k else []) := h
    split at h
    · exact s.nz k a (hideF_sub h).1
    · cases h
  zd := s.zd
theorem fin_sub {ws : List Nat} {n : Nat} {a : Addr} (h : Tot (fun k => if k < n then hideF ws Fs k else []) a) : Tot Fs a := by
  obtain ⟨k, h⟩ := h
  have h : a ∈ (if k < n then hideF ws Fs k else []) := h
  split at h
  · exact ⟨k, (hideF_sub h).1⟩
  · cases h
end
/-- what a body answers -/
def bodyR (L n : Nat) (ws : List Nat) (st : SS) : SE := fun ρ => match st (ρ ++ List.replicate (L - n) none) with
  | .rt w ρ1 => .ok w ((hide ws ρ1).take n)
  | .nx ρ1 => .ok (.d .none) ((hide ws ρ1).take n)
  | .ex C x ρ1 => .ex C x ((hide ws ρ1).take n)
  | _ => .no
theorem body_read {g : G0} {E : XK} {N : List Str} {n : Nat} {ws : List Nat} {st : SS} {vs : List V} {H : Hp} {Q : VK} (h : spOf g n (bodyR N.length n ws st) vs H Q E) :
    tS g (fun c d _ H' => E c d H') ws st { nx := fun _ H' => Q .non H', rt := Q } (L2.start N vs) H := by
  obtain ⟨hl, Z, ρ, Fs, ok, h⟩ := h
  subst hl
  have s0 : SOk g.K Z H (ρ ++ List.replicate (N.length - vs.length) none) (L2.start N vs) Fs := ok.more _
  refine ⟨Z, _, Fs, s0, ?_⟩
  unfold bodyR at h
  cases e : st (ρ ++ List.replicate (N.length - vs.length) none) with
  | nx ρ1 =>
    rw [e] at h
    intro σ' Z' H' Fs' s' ag t
    exact h .non Z' H' _ [] (s'.fin ag) (.d .non) .nil (fun _ z => nomatch z) (fun _ z => nomatch z) (t.wk (fun _ z => z) fun c z => by
      rcases z with z | z
      · exact .inl (fin_sub (ws := ws) (n := vs.length) z)
      · cases z)
  | rt w ρ1 =>
    rw [e] at h
    intro v σ' Z' H' Fs' T s' ag r1 r2 r3 r4 t
    exact h v Z' H' _ T (s'.fin ag) r1 r2 r3 (fun c hc z => r4 c hc (fin_sub (ws := ws) (n := vs.length) z)) (t.wk (fun _ z => z) fun c z => by
      rcases z with z | z
      · exact .inl (.inl (fin_sub (ws := ws) (n := vs.length) z))
      · exact .inl (.inr z))
  | ex C x ρ1 =>
    rw [e] at h
    intro cls dx σ' Z' H' Fs' s' ag xr t
    exact h cls dx Z' H' _ (s'.fin ag) xr (t.wk (fun _ z => z) fun c z => .inl (fin_sub (ws := ws) (n := vs.length) z))
  | bk ρ1 => rw [e] at h; exact h.elim
  | ct ρ1 => rw [e] at h; exact h.elim
  | no => rw [e] at h; exact h.elim

/-! ### the world of a program -/
structure Wd (pm : Pm) (P : Program) (w : World) (K : PySem.W.Frag) (mg : Str → Option Value) (base : Heap) : Prop where
  hK : K = pm.g.K
  free : ∀ x ∈ (["abs", "all", "any", "bool", "enumerate", "int", "isinstance", "len", "list", "max", "min", "ord", "range", "repr", "sorted", "str", "sum", "tuple", "zip"] : List Str), mg x = none
  con : ∀ i x c, pm.C i = some (x, c) → ∃ u v, mg x = some u ∧ RelV v u ∧ ∀ Z H, RD pm.g.K Z H c v
  defs : ∀ i d, pm.D i = some d → d.lv ≤ pm.lv → mg d.name = some (.ref d.f) ∧ PySem.W.keepIn K (.ref d.f) = true ∧ L2.Binds K d.fd d.ps [] ∧ FnG P w K mg base d.lv d.f d.fd d.ps d.sp ∧ ∀ k ∈ d.kb, KBd K d.fd d.ps k
  exc : ∀ C x, pm.XN C = some x → ErrI P w K mg base x (pm.g.CA C)
  exm : ∀ C x C' x', pm.XN C = some x → pm.XN C' = some x' → PySem.W.exmOne K (.ref (pm.g.CA C)) (.ref (pm.g.CA C')) = some (pm.sub C C')
theorem def_of {pm : Pm} {P : Program} {w : World} {K : PySem.W.Frag} {mg : Str → Option Value} {base : Heap} {f : Addr} {name qual : Str} {params : Arguments} {body : List Stmt} {scope : Scope} {dV kV doc pmv cdv cty oc : Value} {an od : Option Addr} {osl : Array (Option Value)}
    {N ps : List Str} {ws : List Nat} {st : SS} {lv : Nat} (W : Wd pm P w K mg base) (hlv : lv = pm.lv + 1) (lk : K.lookup f = some ⟨oc, od, .func (PySem.W.fnOf name qual params body scope dV kV doc pmv an cdv cty), osl⟩) (hcd : PySem.W.codeIn K cdv qual = true) (S : FnScope N ps scope)
    (hb : KSs pm ⟨N, scope, fun _ => true⟩ ws body st) : FnG P w K mg base lv f (PySem.W.fnOf name qual params body scope dV kV doc pmv an cdv cty) ps (spOf pm.g ps.length (bodyR N.length ps.length ws st)) := by
  subst hlv
  refine ⟨fun vs H Q E h => h.1, fun A outer s H args us vs Q E hgd hr e0 hbt r hsp => ?_⟩
  have KX : K.In s.heap := e0.mod.kin.keeps fun b o e => (e0.bs b o e).1
  have lim : s.heap.NoLimit := e0.mod.nolimit.keeps fun b o e => (e0.bs b o e).1
  have vis : ∀ y ∈ ps.zip us, scope.names.lookup y.1 = some .local ∨ (scope.names.lookup y.1 = some .cell ∧ ((cellsFrom (s.heap.objs.size + 1) scope.names []).lookup y.1).isSome = true) := by
    rintro ⟨n, v⟩ hy
    exact (S.par n (List.of_mem_zip hy).1).imp id fun q => ⟨q, PySem.W.cellsFrom_some _ _ _ (.inl q)⟩
  refine codeAny_call_function hr.depth (KX _ _ lk) rfl S.co S.gen rfl (PySem.W.codeRec_of KX hcd) (hbt _ _ _ _ (wpAny_newFunctionEnv_cells S.kind vis fun env he s1 x => ⟨lim.keeps x.toInCall.keep, codeAny_func ?_⟩))
  subst he
  have I := inv_start (CX := L2.CX P w) (E := E) S hr.hd e0 hsp.1 r x
  have xo : XOk pm ⟨N, scope, fun _ => true⟩ (cxOf (L2.CX P w) P w K mg base N qual scope f cdv A outer s H E) := ⟨W.hK, rfl, S.nd, rfl, rfl, rfl, hr.deeper _, hgd, W.free, W.con, W.defs, W.exc, W.exm⟩
  have tk := takes_of (X := cxOf (L2.CX P w) P w K mg base N qual scope f cdv A outer s H E) rfl rfl rfl rfl
  refine wpAny_mono ((hb.go _ _ xo ⟨rfl, rfl⟩ tk (passes_of rfl)).run [] s1 (L2.start N vs) H _ I (body_read hsp)) (fun fl s' hs => ?_) fun e s' hs => hs
  cases fl with
  | ret u => 
    obtain ⟨v, σ', H', J, rv, q⟩ := hs
    exact ⟨v, H', J.os, J.bare, J.base, J.hok, rv, q⟩
  | next =>
    obtain ⟨σ', H', J, q⟩ := hs
    exact ⟨.non, H', J.os, J.bare, J.base, J.hok, rfl, q⟩
  | brk =>
    obtain ⟨_, _, _, q⟩ := hs
    exact q.elim
  | cont =>
    obtain ⟨_, _, _, q⟩ := hs
    exact q.elim
end Ev
set_option Elab.async false
set_option maxRecDepth 100000
set_option maxHeartbeats 4000000
/-! Ev17: the end of a law. -/
namespace Ev
open PySem PySem.Spec PyProof.Rows L2

/-- the abstract heap in which the script alone is known -/
def hpS (a : Addr) (vs : List Value) (ns : List Int) : Hp := fun b => if b = a then some (.frz { cls := .type "list", data := .seq vs.toArray } (.lst (ns.map V.int))) else none
theorem hpS_at {a : Addr} {vs : List Value} {ns : List Int} : hpS a vs ns a = some (.frz { cls := .type "list", data := .seq vs.toArray } (.lst (ns.map V.int))) := if_pos rfl
theorem hpS_ne {a b : Addr} {vs : List Value} {ns : List Int} (h : b ≠ a) : hpS a vs ns b = none := if_neg h
theorem hpS_some {a b : Addr} {vs : List Value} {ns : List Int} (h : hpS a vs ns b ≠ none) : b = a := Classical.byContradiction fun z => h (hpS_ne z)
theorem Stp.of0 {Z F : Addr → Prop} {H : Hp} : Stp Z F H Z F H := .refl
theorem rds_ints {K : PySem.W.Frag} {Z : Addr → Prop} {H : Hp} : ∀ ns : List Int, RDs K Z H (ns.map PyData.int) (ns.map V.int)
  | [] => .nil
  | n :: ns => .cons (.int n) (rds_ints ns)
theorem sp_law {g : G0} {Φ : SE} {a : Addr} {vs : List Value} {ns : List Int} {ρ : Sl} (h : Φ [some (.d (.list (ns.map .int)))] = .ok (.d (.bool true)) ρ) :
    spOf g 1 Φ [.ref a] (hpS a vs ns) (fun v _ => v = .bl true) fun _ _ _ => False := by
  refine ⟨rfl, fun b => b = a, [some (.d (.list (ns.map .int)))], fun _ => [], ⟨rfl, fun i w e => ?_, fun _ _ => rfl, fun _ _ _ _ z => (nomatch z), fun _ => .nil, fun _ _ z => (nomatch z), fun b z => ?_⟩, ?_⟩
  · cases i with
    | zero =>
      cases e
      exact ⟨.ref a, rfl, .d (.lst ⟨.inr ⟨_, hpS_at⟩, rfl⟩ (rds_ints ns))⟩
    | succ i => cases e
  · rw [z, hpS_at]
    exact fun z => nomatch z
  · rw [h]
    intro v Z' H' Fs' T s r _ _ _ _
    cases r with
    | d r => cases r; rfl
theorem law_callG {P : Program} {w : World} {K : PySem.W.Frag} {mg mb : Str → Option Value} {k : Nat} {fa a : Addr} {fd : FuncData} {x : Str} {sp : Sp} {s₁ : Shared} {vs : List Value} {ns : List Int}
    (KX : K.In s₁.heap) (hns : s₁.heap.Ns mainGlobals mg) (hb : s₁.heap.Ns builtinsNs mb) (hbb : ∀ x : Str, x ≠ "__name__" → mb x = bootBuiltins x) (hlim : s₁.heap.NoLimit) (hg : s₁.gens = #[])
    (ha : s₁.heap.get? a = some { cls := .type "list", data := .seq vs.toArray }) (hi : IntsAre vs ns) (hl : ns.length ≤ sizeLine) (hr : Room k callerA) (hgd : callerA.guards = some []) (hK : ∀ b o, K.lookup b = some o → o.cls ≠ .type "list")
    (F : ∀ base : Heap, K.In base → base.Ns mainGlobals mg → FnG P w K mg base k fa fd [x] sp) (hbind : ∀ (s : Shared) (u : Value), BindsTo s fd ⟨[u], []⟩ [(x, u)])
    (hsp : sp [.ref a] (hpS a vs ns) (fun v _ => v = .bl true) fun _ _ _ => False) :
    codeAny (model P w) callerA (.call (.ref fa) ⟨[.ref a], []⟩) (fun r s' => r = .ok (.ret (.bool true)) ∧ OldK s₁.heap s'.heap ∧ s'.os = s₁.os ∧ AllBare s'.gens) s₁ := by
  have rv := vals_ints hi
  have kno : ∀ b o, K.lookup b = some o → hpS a vs ns b = none := fun b o e => hpS_ne fun z => by
    have e2 := KX b o e
    rw [z, ha] at e2
    cases e2
    exact hK b _ e rfl
  have hok : HOk P w (hpS a vs ns) s₁.heap := fun b u z => by
    have e : b = a := hpS_some (by rw [z]; exact fun y => nomatch y)
    subst e
    rw [hpS_at] at z
    cases z
    exact ⟨ha, by rw [List.length_map]; exact hl, vs, _, rv, ha⟩
  -- what is not the script is base
  have low : ∀ {b : Addr} {o : Obj}, s₁.heap.get? b = some o → hpS a vs ns b = none → (hidT s₁.heap (hpS a vs ns)).get? b = some o := fun e n => hidT_get e n
  have nod : ∀ {b : Addr} {o : Obj} {es : Array DictEntry} {ep : Nat}, s₁.heap.get? b = some o → o.data = .dict es ep → hpS a vs ns b = none := fun {b o es ep} e d => hpS_ne fun z => by
    rw [z, ha] at e
    cases e
    have d' : Data.seq vs.toArray _ = Data.dict es ep := d
    cases d'
  have nsB : ∀ {b : Addr} {m : Str → Option Value}, s₁.heap.Ns b m → (hidT s₁.heap (hpS a vs ns)).Ns b m := fun {b m} ⟨o, es, ep, e, d, r⟩ => ⟨o, es, ep, low e (nod e d), d, r⟩
  have inB : K.In (hidT s₁.heap (hpS a vs ns)) := fun b o e => low (KX b o e) (kno b o e)
  obtain ⟨mc, l1, l2⟩ := hlim
  have e0 : Env0 P w K mg (hidT s₁.heap (hpS a vs ns)) callerA [] s₁ (hpS a vs ns) :=
    ⟨rfl, ⟨inB, nsB hns, ⟨mb, nsB hb, hbb⟩, ⟨mc, nsB l1, l2⟩⟩, fun b o e => of_hidT e, Nat.le_of_eq (hidT_size _ _), trivial, fun b hb => (nomatch hb), hok, .of_eq hg⟩
  refine codeAny_mono ((F _ inB (nsB hns)).run callerA [] s₁ (hpS a vs ns) ⟨[.ref a], []⟩ [.ref a] [.ref a] _ _ hgd hr e0 (hbind s₁ (.ref a)) (.cons rfl .nil) hsp) fun r s' h => ?_
  match r, h with
  | .error e, h =>
    obtain ⟨_, _, _, _, _, _, _, _, _, _, _, _, z⟩ := h
    exact z.elim
  | .ok (.ret u), ⟨v, H', os, bare, un, hok', r', q⟩ =>
    have q' : v = .bl true := q
    subst q'
    obtain rfl : u = Value.bool true := r'
    refine ⟨rfl, OldK.of_keep fun b o e => ?_, os, bare⟩
    by_cases hba : b = a
    · subst hba
      obtain ⟨e2, _⟩ := hok' b _ (un.frzs b _ _ hpS_at)
      rw [ha] at e
      cases e
      exact e2
    · exact un.keep b o e (hpS_ne hba) (fun z => (nomatch z)) (by simp)
  | .ok .next, h => exact h.elim
  | .ok .brk, h => exact h.elim
  | .ok .cont, h => exact h.elim
theorem walkG {l : PySem.W.OpenLaw} {n k : Nat} {q : Program} {loose : List Str} {XP : (Str → Option Value) → Heap → Prop} {YP : World → Heap → Prop} {d : DefRec} {K : Params → PySem.W.Frag} {x : Str}
    (hn : l.most = some n) (hn2 : n ≤ sizeLine) (hdf : d.params.defaults = []) (hr : Room k callerA) (hgd : callerA.guards = some [])
    (hY : ∀ (w : World) (h : Heap), YP w h → (K w.params).In h) (hK : ∀ p b o, (K p).lookup b = some o → o.cls ≠ .type "list")
    (F : ∀ (w : World) (mg : Str → Option Value) (fa : Addr) (h : Heap), (K w.params).In h → h.Ns mainGlobals mg → mg d.name = some (.ref fa) →
      ∃ (g : G0) (fd : FuncData) (Φ : SE), (∀ (s : Shared) (u : Value), BindsTo s fd ⟨[u], []⟩ [(x, u)]) ∧
        (∀ ns : List Int, ns.length ≤ n → (∀ z ∈ ns, Builtin.Int.intBits z ≤ 1048576) → ∃ ρ, Φ [some (.d (.list (ns.map .int)))] = .ok (.d (.bool true)) ρ) ∧
        ∀ base : Heap, (K w.params).In base → base.Ns mainGlobals mg → FnG l.prog w (K w.params) mg base k fa fd [x] (spOf g 1 Φ)) :
    PySem.W.WalkO q loose XP YP l.row.toRowW d [] (fun f vs => PySem.call f vs) := by
  refine Att.attach_callB hn hdf fun w s₀ s₁ mg mb fa o pm cd doc a vs ns G Y ho hd hcd hmg hobj hints hlen hbits hg => ?_
  obtain ⟨g, fd, Φ, hb, hΦ, hF⟩ := F w mg fa _ (hY w _ Y) G.T.g hmg
  obtain ⟨ρ, e⟩ := hΦ ns hlen hbits
  exact law_callG (hY w _ Y) G.T.g G.T.b G.T.builtins G.T.nolimit hg hobj hints (Nat.le_trans hlen hn2) hr hgd (hK w.params) hF hb (sp_law e)
end Ev
set_option Elab.async false
set_option maxRecDepth 100000
set_option maxHeartbeats 4000000
/-! Ev18: the errors' __init__: super().__init__(value); self.value = value. -/
namespace Ev
open PySem PySem.Spec PyProof.Rows L2

/-- the scope, the body -/
abbrev eSc : Scope := { kind := .function, names := [("self", .local), ("value", .local), ("__class__", .free), ("super", .globalImplicit)], isGenerator := false, isCoroutine := false, more := [] }
abbrev eBd : List Stmt := [.Expr (.Call (.Attribute (.Call (.Name "super" ⟨5, 8, 5, 13⟩) [] [] ⟨5, 8, 5, 15⟩) "__init__" ⟨5, 8, 5, 24⟩) [.Name "value" ⟨5, 25, 5, 30⟩] [] ⟨5, 8, 5, 31⟩) ⟨5, 8, 5, 31⟩,
  .Assign [.Attribute (.Name "self" ⟨6, 8, 6, 12⟩) "value" ⟨6, 8, 6, 18⟩] (.Name "value" ⟨6, 21, 6, 26⟩) ⟨6, 8, 6, 26⟩]
section
variable {P : Program} {w : World} {A : Around} {E : Value → Shared → Prop} {R : Result → Shared → Prop}
/-- the bound built-in __init__ is called -/
theorem call_mwE {C a u : Addr} {X : Cx} {pins : List (Addr × Obj)} {σ : L2.St} {H : Hp} {s : Shared} {us : List Value} {Q : Value → Shared → Prop} (T : OexC X.K C) (I : Inv X pins σ H s) (e : H a = some (exo a C none))
    (hu : s.heap.get? u = some (PySem.W.kxs_mw "ValueError.__init__" a)) (hl : us.length ≤ sizeLine) (h : ∀ s', Inv X pins σ H s' → Q .none s') :
    wpAny (model X.prog X.w) A (call (.ref u) us) Q E s := by
  obtain ⟨nm, q, N, bs, bm, sn, sub, ab, col, dd, k0, k1, k2, k3, k5, hC, hbm⟩ := T.cls
  obtain ⟨t1, ho⟩ := exo_at I.hok e
  have hC' := I.kIn _ _ hC
  obtain ⟨hp, g, d, t, os⟩ := s
  have eu : upd H a (exo a C none) = H := by
    funext b
    by_cases hb : b = a
    · rw [hb, upd_same, e]
    · rw [upd_ne hb]
  refine wpAny_call (codeAny_of_tree ?_)
  show wpAny _ A.in1 (callAny (.ref u) ⟨us, []⟩) _ _ _
  simp only [callAny]
  refine wpAny_bind (wpAny_load hu ?_)
  simp only [PySem.W.kxs_mw, show (Value.type "method-wrapper" == Value.type "method" || Value.type "method-wrapper" == Value.type "builtin_function_or_method" || Value.type "method-wrapper" == Value.type "method-wrapper") = true by decide, if_true]
  refine PySem.W.KFB.if_so (by decide) (wpAny_bind (PySem.W.check_bound_init PySem.F.excBase_ValueError.toExcCallFacts hC' ho rfl ?_))
  refine wpAny_bind (wpAny_pure (wpAny_pure ⟨PySem.plainId_quiet PySem.F.excBase_ValueError.init.plain _, codeAny_builtin PySem.F.excBase_ValueError.initEntry ?_⟩))
  refine PySem.W.exc_init_tree (cls := .ref C) (t0 := t1) (dv := none) (c2 := .none) (c3 := .none) (b4 := .bool false) ho hl fun h' k hx _ => ?_
  have J := I.write (t' := t) (x := a) (e := a) (o := exo a C none) (by rw [e]; exact True.intro) (.inl rfl) k ⟨_, hx⟩ (exo_ok hx)
  rw [eu] at J
  exact h _ J
/-- what is written of the __init__: its function, its code, the cell with the class -/
structure InitW (P : Program) (K : PySem.W.Frag) (mg : Str → Option Value) (D fI : Addr) (q : Str) (prm : Arguments) (body : List Stmt) (dV kV doc pmv cty : Value) (an : Option Addr) (cda cc : Addr) : Prop where
  fn : ∃ oc od osl, K.lookup fI = some ⟨oc, od, .func (PySem.W.ksFn "__init__" q prm body eSc dV kV doc pmv an (.ref cda) cty cc), osl⟩
  code : PySem.W.codeIn K (.ref cda) q = true
  file : ∃ ccl cdd vs ccs f tf, K.lookup cda = some ⟨ccl, cdd, .fields vs, ccs⟩ ∧ vs[2]? = some (.str f tf) ∧ ((P.main.file : Str) == f) = true
  cell : ∃ cl cld csl, K.lookup cc = some ⟨cl, cld, .cell (some (.ref D)), csl⟩
  cls : ∃ cdD, PySem.W.clsIn K D = some cdD
  any : PySem.W.nsIn K PySem.cStatics "thirdparty.any" = some none
  sup : mg "super" = none
  top : (P.main.scope.names.lookup ("super" : Str)).isSome = false
  par : ∃ ar, (prm.posonlyargs ++ prm.args).head? = some ar ∧ ar.arg = "self"
/-- the place in which the __init__ runs -/
abbrev eEnv (q : Str) (L fI : Addr) (cda cc : Addr) : Env := PySem.W.ksEnv q eSc L fI (.ref cda) cc
abbrev eCx (P : Program) (w : World) (K : PySem.W.Frag) (mg : Str → Option Value) (base : Heap) (A : Around) (env : Env) (outer : List Env) (s : Shared) (H : Hp) : Cx where
  prog := P
  w := w
  K := K
  mg := mg
  base := base
  A := A.deeper env
  N := ["self", "value"]
  s_0 := s
  H_0 := H
  env := env
  outer := outer
  stack := env :: outer
  ex := []
  fn := fun _ => false
  calm := true
  pn := []
  xe := fun _ _ => False
theorem init_inv {K : PySem.W.Frag} {mg : Str → Option Value} {base : Heap} {outer : List Env} {s : Shared} {H : Hp} {q : Str} {fI cda cc a D : Addr} {v : V} {u : Value} {h₀ : Heap} {t : Nat} {cl : Value} {cld : Option Addr} {csl : Array (Option Value)}
    (hd : A.handled = none) (e0 : Env0 P w K mg base A outer s H) (hcell : K.lookup cc = some ⟨cl, cld, .cell (some (.ref D)), csl⟩) (rv : RelV v u)
    (hns : h₀.Ns s.heap.objs.size (fun x => ([("self", .ref a), ("value", u)] : List (Str × Value)).reverse.lookup x)) (hk : ∀ b o, s.heap.get? b = some o → h₀.get? b = some o) :
    Inv (eCx P w K mg base A (eEnv q s.heap.objs.size fI cda cc) outer s H) [] [some (.ref a), some v] H { s with heap := h₀, toks := t } := by
  have noA : ∀ b : Addr, b ∉ ([] : List Addr) := fun b z => (nomatch z)
  have cl1 : ∀ (x : Str) (c : Addr), ([("__class__", cc)] : List (Str × Addr)).lookup x = some c → c = cc ∧ x = "__class__" := fun x c e => by
    rw [List.lookup_cons] at e
    split at e
    · rename_i h
      cases e
      exact ⟨rfl, by simpa using h⟩
    · cases e
  have hcb := e0.mod.kin _ _ hcell
  refine ⟨⟨e0.mod, rfl, rfl, rfl, Nat.le_refl _, fun y z c h1 h2 => ?_, fun y hy => ?_, fun y c h _ => (nomatch h), fun _ => hd, Around.frames_deeper e0.frames, .inr ⟨rfl, rfl⟩, fun b z => (nomatch z), e0.bs, e0.bsz, fun b _ _ => noA b, fun b z => (nomatch z), e0.funs, e0.frf⟩,
    rfl, e0.bare, Un.kept hk, ⟨_, hns, fun i y v' h1 h2 h3 => ?_⟩, fun y c h => ?_, e0.hok.fresh (Nat.le_refl _), fun y c h => ?_, fun p hp => (nomatch hp), e0.hok.kept hk, rfl⟩
  · rw [(cl1 y c h1).2, (cl1 z c h2).2]
  · have hy : eSc.names.lookup y = some .cell ∨ eSc.names.lookup y = some .free := hy
    refine ⟨cc, ?_⟩
    have e : y = "__class__" := by
      simp only [List.lookup_cons] at hy
      repeat' split at hy
      all_goals first | (rename_i h; simpa using h) | (rcases hy with hy | hy <;> cases hy)
    rw [e]
    rfl
  · match i, h1, h2 with
    | 0, h1, h2 =>
      cases h1
      cases h2
      exact ⟨.ref a, rfl, .inl ⟨rfl, rfl⟩⟩
    | 1, h1, h2 =>
      cases h1
      cases h2
      exact ⟨u, rv, .inl ⟨rfl, rfl⟩⟩
    | i + 2, h1, h2 => cases h1
  · obtain ⟨rfl, _⟩ := cl1 y c h
    exact ⟨_, _, hk _ _ (e0.bs _ _ hcb).1, rfl⟩
  · obtain ⟨rfl, _⟩ := cl1 y c h
    exact (e0.bs _ _ hcb).2
theorem init_ok {K : PySem.W.Frag} {mg : Str → Option Value} {base : Heap} {D fI : Addr} {q : Str} {prm : Arguments} {dV kV doc pmv cty : Value} {an : Option Addr} {cda cc : Addr}
    (F : InitW P K mg D fI q prm eBd dV kV doc pmv cty an cda cc) :
    FnOk P w K mg base (L2.CX P w) 0 fI (PySem.W.ksFn "__init__" q prm eBd eSc dV kV doc pmv an (.ref cda) cty cc) ["self", "value"] (spErr K D) := by
  obtain ⟨oc, od, osl, lk⟩ := F.fn
  obtain ⟨ccl, cdd, fvs, ccs, fl, tf, hcd, hvs, hfile⟩ := F.file
  obtain ⟨cl, cld, csl, hcell⟩ := F.cell
  obtain ⟨cdD, hD⟩ := F.cls
  obtain ⟨ar, hpar, harg⟩ := F.par
  refine ⟨fun vs H Q E ⟨a, C, v, e, _⟩ => by rw [e]; rfl, fun A outer s H args us vs Q E hr e0 hbt r hsp => ?_⟩
  obtain ⟨a, C, v, rfl, ec, hea, hq⟩ := hsp
  obtain ⟨u, rfl, rv⟩ : ∃ u, us = [.ref a, u] ∧ RelV v u := by
    cases r with
    | cons r1 r2 =>
      cases r1
      cases r2 with
      | cons r3 r4 =>
        cases r4
        exact ⟨_, rfl, r3⟩
  have KX : K.In s.heap := e0.mod.kin.keeps fun b o e => (e0.bs b o e).1
  have lim : s.heap.NoLimit := e0.mod.nolimit.keeps fun b o e => (e0.bs b o e).1
  refine PySem.ks_codeAny_call_defAt (binds := [("self", .ref a), ("value", u)]) hr.depth (KX _ _ lk) rfl lim (PySem.W.codeRec_of KX F.code) rfl hbt (fun x hx => ?c1) (fun x hx => ?c2) (fun h₀ hns hk => ?_) rfl rfl rfl
  case c1 =>
    exact (by decide : ∀ x ∈ eSc.names, x.2 ≠ .cell) x hx
  case c2 =>
    rcases List.mem_cons.mp hx with e | hx
    · rw [e]
      rfl
    · rw [List.mem_singleton.mp hx]
      rfl
  have I0 := init_inv (P := P) (w := w) (A := A) (q := q) (fI := fI) (cda := cda) (t := s.toks + 2) hr.hd e0 hcell rv hns hk
  have K0 : K.In h₀ := KX.keeps hk
  -- super()
  refine PySem.ks_wpAt_execs_cons (PySem.ks_wpAt_Expr_any (PySem.ks_wpAt_MethodCall ?_))
  refine PySem.ks_wpAt_super_base (env := eEnv q s.heap.objs.size fI cda cc) (ar := ar) rfl rfl (by decide) rfl (K0 _ _ lk) rfl hpar rfl (K0 _ _ hcd) rfl hvs hfile F.top ?_
  obtain ⟨mb, hb1, hb2⟩ := e0.mod.blt
  have bk : ∀ b o, base.get? b = some o → h₀.get? b = some o := fun b o e => hk b o (e0.bs b o e).1
  refine PySem.W.ks_loadName_global rfl rfl (PySem.Calls.loadGlobal_builtin (env := eEnv q s.heap.objs.size fI cda cc) (e0.mod.glob.keeps bk) F.sup (hb1.keeps bk) ((hb2 "super" (by decide)).trans (by first | rfl | decide +kernel | kernel_rfl)) ⟨rfl, ?_⟩)
  refine wpAny_loadName_free rfl rfl rfl ⟨_, K0 _ _ hcell, rfl⟩ ?_
  rw [harg]
  refine wpAny_loadName_local rfl rfl hns rfl ?_
  obtain ⟨oD, hD1, hD2⟩ : ∃ oD, h₀.get? D = some oD ∧ oD.data = .cls cdD := by
    unfold PySem.W.clsIn at hD
    split at hD
    · rename_i c d cd' sl ho
      cases hD
      exact ⟨_, K0 _ _ ho, rfl⟩
    · cases hD
  refine PySem.ks_wpAny_isType_cls hD1 hD2 ⟨rfl, ?_⟩
  obtain ⟨t1, hoa⟩ := exo_at I0.hok hea
  have hoa : h₀.get? a = some ({ cls := .ref C, dict := none, data := .fields #[.ref t1, .none, .none, .none, .bool false, .none] } : Obj) := hoa
  refine PySem.ks_wpAny_call_super hD1 hD2 hoa rfl (fun c z => by cases z) (PySem.W.looks_mroIn K0 ec.mro) (fun h1 so k1 => ?_)
  have I1 : Inv (eCx P w K mg base A (eEnv q s.heap.objs.size fI cda cc) outer s H) [] [some (.ref a), some v] H { s with heap := h1, toks := s.toks + 2 } := I0.kept (t' := s.toks + 2) k1
  have K1 : K.In h1 := K0.keeps k1
  -- super().__init__
  obtain ⟨nm, qn, N, bs, bm, sn, sub, ab, col, dd, k0, k2, k3, k4, k5, hC, hbm⟩ := ec.oex.cls
  have hcl : PySem.W.clsIn K C = some { name := nm, bases := bs, mro := .ref C :: bm, ns := N, qualname := qn, hasDict := true, slotNames := sn, subclasses := sub, abstract := ab, collection := col, hasDel := false } := by unfold PySem.W.clsIn; rw [hC] <;> rfl
  have hsup := ec.sup
  unfold PySem.W.ks_superIn at hsup
  rw [hcl] at hsup
  have LT : PySem.W.Looks (model P w) h1 (typeOf (.ref a)) (.ref C) := fun A Q E s k q => wpAny_typeOf_ref (k _ _ (k1 _ _ hoa)) (by exact q)
  have hxC : a ≠ C := fun z => by
    have z2 := K1 _ _ hC
    rw [← z, k1 _ _ hoa] at z2
    cases z2
  refine PySem.W.kxs_getMethod PySem.W.kxs_ValueError so (PySem.W.looks_opaque K1 F.any) (l₀ := .ref C :: bm) (fun A Q E s k q => wpAny_bind ((PySem.W.looks_clsIn K1 hcl) A _ E s k (wpAny_pure q))) rfl K1 hsup (LT.andThen (PySem.W.looks_subIn K1 ec.val)) hxC (by decide) ?_
  have I2 : Inv (eCx P w K mg base A (eEnv q s.heap.objs.size fI cda cc) outer s H) [] [some (.ref a), some v] H { s with heap := h1.push (PySem.W.kxs_mw "ValueError.__init__" a), toks := s.toks + 2 + 1 } := I1.kept (t' := s.toks + 2 + 1) fun b o e => Heap.get?_push_of_some _ e
  have hmw : (h1.push (PySem.W.kxs_mw "ValueError.__init__" a)).get? h1.objs.size = some (PySem.W.kxs_mw "ValueError.__init__" a) := Heap.get?_push_at rfl rfl
  refine wpAny_mono (E := fun _ _ => False) (PySem.W.kxs_callWith (i := "ValueError.__init__") (x := a) rfl (PySem.Calls.evalArgs_plain (PySem.Calls.spliced_cons (PySem.ESX.ldL ((hns.keeps k1).keeps fun b o e => Heap.get?_push_of_some _ e) rfl (PySem.Calls.spliced_nil ⟨hmw, ?_⟩))))) (fun _ _ q => q) fun _ _ z => z.elim
  refine call_mwE ec.oex I2 hea hmw (by rw [sizeLine_eq]; show (1 : Nat) ≤ 16777216; decide) fun s3 I3 => ?_
  -- self.value = value
  have un : ∀ {e : Value} {s' : Shared}, (eCx P w K mg base A (eEnv q s.heap.objs.size fI cda cc) outer s H).xe e s' → False := fun z => z
  refine PySem.ks_wpAt_execs_cons (PySem.ks_wpAt_Assign_Attr (PySem.wpAt_of_wpAny (wpAny_mono ((pe_var (i := 1) (x := "value") rfl (.inl rfl)).run [] s3 _ H (fun x H' => x = v ∧ H' = H) I3 ⟨v, rfl, rfl, rfl⟩) (fun u1 s4 h4 => ?_) fun _ _ z => (un z).elim)))
  obtain ⟨v1, H4, I4, r4, rfl, rfl⟩ := h4
  refine wpAny_mono ((pe_var (i := 0) (x := "self") rfl (.inl rfl)).run [] s4 _ H4 (fun x H' => x = .ref a ∧ H' = H4) I4 ⟨.ref a, rfl, rfl, rfl⟩) (fun u2 s5 h5 => ?_) fun _ _ z => (un z).elim
  obtain ⟨v2, H5, I5, r5, rfl, rfl⟩ := h5
  obtain rfl : u2 = Value.ref a := r5
  refine ost_new ec.oex I5 hea ec.fld r4 fun dx s6 hn hne J => ?_
  refine PySem.wpAt_of_wpAny (wpAny_execs_nil ?_)
  exact ⟨.non, _, J.os, J.bare, J.base, J.hok, rfl, hq dx hn hne⟩
end
end Ev
set_option Elab.async false
set_option maxRecDepth 100000
set_option maxHeartbeats 4000000
/-! Ev19: the built-ins by name; a list backwards; calls with keywords. -/
namespace Ev
open PySem PySem.Spec PyProof.Rows L2
section
variable {pm : Pm} {ct : Ct} {e : Expr} {es : List Expr} {as : SA} {p pos : Pos}
theorem ke_len (ha : KA pm ct (e :: es) as) (hg : glB ct.sc "len" = true) (hs : (e :: es).all starB = true) : KE pm ct (.Call (.Name "len" p) (e :: es) [] pos) (opn lenD as) :=
  ke_bi PySem.boot_len (by decide) (fun X xo => by rw [← xo.hK]; exact call_len) ful_len ha hg hs
theorem ke_abs (ha : KA pm ct (e :: es) as) (hg : glB ct.sc "abs" = true) (hs : (e :: es).all starB = true) : KE pm ct (.Call (.Name "abs" p) (e :: es) [] pos) (opn absD as) :=
  ke_bi boot_abs (by decide) (fun X xo => call_abs) ful_abs ha hg hs
theorem ke_max (ha : KA pm ct (e :: es) as) (hg : glB ct.sc "max" = true) (hs : (e :: es).all starB = true) : KE pm ct (.Call (.Name "max" p) (e :: es) [] pos) (opn maxD as) :=
  ke_bi boot_max (by decide) (fun X xo => call_max2 xo.calm) ful_max ha hg hs
theorem ke_min (ha : KA pm ct (e :: es) as) (hg : glB ct.sc "min" = true) (hs : (e :: es).all starB = true) : KE pm ct (.Call (.Name "min" p) (e :: es) [] pos) (opn minD as) :=
  ke_bi boot_min (by decide) (fun X xo => call_min2 xo.calm) ful_min ha hg hs
theorem ke_int (ha : KA pm ct (e :: es) as) (hg : glB ct.sc "int" = true) (hs : (e :: es).all starB = true) : KE pm ct (.Call (.Name "int" p) (e :: es) [] pos) (opn intD as) :=
  ke_ty boot_int (by decide) (fun X xo => call_int1.or call_int_str) ful_int ha hg hs
theorem ke_str (ha : KA pm ct (e :: es) as) (hg : glB ct.sc "str" = true) (hs : (e :: es).all starB = true) : KE pm ct (.Call (.Name "str" p) (e :: es) [] pos) (opn strD as) :=
  ke_ty boot_str (by decide) (fun X xo => call_str_int.or SkE.call_str_str) ful_str ha hg hs
theorem ke_ord (ha : KA pm ct (e :: es) as) (hg : glB ct.sc "ord" = true) (hs : (e :: es).all starB = true) : KE pm ct (.Call (.Name "ord" p) (e :: es) [] pos) (opn ordD as) :=
  ke_bi boot_ord (by decide) (fun X xo => call_ord) ful_ord ha hg hs
theorem ke_all (ha : KA pm ct (e :: es) as) (hg : glB ct.sc "all" = true) (hs : (e :: es).all starB = true) : KE pm ct (.Call (.Name "all" p) (e :: es) [] pos) (opn allD as) :=
  ke_bi (id := "all") (by decide +kernel) (by decide) (fun X xo => by rw [← xo.hK]; exact cr_all xo.calm) ful_all ha hg hs
theorem ke_any (ha : KA pm ct (e :: es) as) (hg : glB ct.sc "any" = true) (hs : (e :: es).all starB = true) : KE pm ct (.Call (.Name "any" p) (e :: es) [] pos) (opn anyD as) :=
  ke_bi (id := "any") (by decide +kernel) (by decide) (fun X xo => by rw [← xo.hK]; exact cr_any xo.calm) ful_any ha hg hs
theorem ke_sum (ha : KA pm ct (e :: es) as) (hg : glB ct.sc "sum" = true) (hs : (e :: es).all starB = true) : KE pm ct (.Call (.Name "sum" p) (e :: es) [] pos) (opn sumD as) :=
  ke_bi (id := "sum") (by decide +kernel) (by decide) (fun X xo => by rw [← xo.hK]; exact cr_sum xo.calm) ful_sum ha hg hs
theorem ke_list (ha : KA pm ct (e :: es) as) (hg : glB ct.sc "list" = true) (hs : (e :: es).all starB = true) : KE pm ct (.Call (.Name "list" p) (e :: es) [] pos) (opn lisD as) :=
  ke_ty boot_list (by decide) (fun X xo => by rw [← xo.hK]; exact call_list_of) ful_list ha hg hs
theorem ke_repr (ha : KA pm ct (e :: es) as) (hg : glB ct.sc "repr" = true) (hs : (e :: es).all starB = true) : KE pm ct (.Call (.Name "repr" p) (e :: es) [] pos) (opn repD as) :=
  ke_bi boot_repr (by decide) (fun X xo => by rw [← xo.hK]; exact call_repr xo.gd xo.room.units) ful_repr ha hg hs
/-! xs[::-1] -/
def revE (a : SO) : SE := fun ρ => (a ρ).bd fun o ρ1 => match lk ρ1 o with
  | some (.list xs) => .ok (.fl xs.reverse) ρ1
  | _ => .no
theorem ke_rev {a : Expr} {sa : SO} {k : Nat} {p1 p2 p3 : Pos} (ha : KO pm ct a sa) : KE pm ct (.Subscript a (.Slice none none (some (.UnaryOp .USub (.Constant (.int 1) k p1) p2)) p3) pos) (revE sa) := by
  refine ⟨fun X E xo t => (pe_revL (ha.go X E xo t)).imp fun σ H Q ⟨Z, ρ, Fs, ok, h⟩ => ⟨Z, ρ, Fs, ok, (PR.bd h).imp ?_⟩⟩
  rintro v H1 ⟨o, ρ1, Z1, Fs1, s1, ho, -, st, h1⟩
  split at h1
  · rename_i xs e1
    obtain ⟨a, us, rfl, q1, r1⟩ := (OIs.rx ho s1 e1).list_
    exact ⟨a, us, rfl, .inl q1, fun p hp => PR.newL h1 s1 hp r1.rev⟩
  · exact h1.elim
end
/-! ### calls with keywords, with defaults -/
structure KK (pm : Pm) (ct : Ct) (ks : List Keyword) (s : SA) : Prop where
  go : ∀ X E, XOk pm ct X → Takes X E → PK X ks (tA pm.g E s)
theorem _root_.L2.PK.imp {X : Cx} {e : List Keyword} {t t' : TA} (h : PK X e t) (q : ∀ σ H Q, t' σ H Q → t σ H Q) : PK X e t' := ⟨fun p pins s σ H Q I r => h.run p pins s σ H Q I (q σ H Q r)⟩
section
variable {pm : Pm} {ct : Ct}
theorem kk_nil : KK pm ct [] nilA := ⟨fun X E xo t => pk_nil.imp fun σ H Q ⟨Z, ρ, Fs, ok, h⟩ => PR0.fin h ok .nil⟩
theorem kk_cons {e : Expr} {r : List Keyword} {a : SO} {s : SA} {nm : Option Str} {p : Pos} (ha : KO pm ct e a) (hr : KK pm ct r s) : KK pm ct (⟨nm, e, p⟩ :: r) (consA a s) := by
  refine ⟨fun X E xo t => (pk_cons (ha.go X E xo t) (hr.go X E xo t)).imp fun σ H Q ⟨Z, ρ, Fs, ok, h⟩ => ⟨Z, ρ, Fs, ok, (PR0.bd h).imp ?_⟩⟩
  rintro v H1 ⟨o, ρ1, Z1, Fs1, s1, ho, -, st, h1⟩
  refine ⟨Z1, ρ1, Fs1, s1, (PR0.bd h1).imp ?_⟩
  rintro vs H2 ⟨os, ρ2, Z2, Fs2, s2, hos, -, st2, h2⟩
  exact PR0.fin h2 s2 (.cons (OIs.stp ho s1 st2) hos)
def callK (n : Nat) (Φ : SE) (k : KwE) (as ks : SA) : SE := fun ρ => (as ρ).bd fun os ρ1 => (ks ρ1).bd fun us ρ2 =>
  if os.length = k.np ∧ us.length = k.ks.length then callO n Φ (pick k.pi (os ++ us ++ k.ds.map .v)) ρ2 else .no
theorem pick_os {g : G0} {σ : L2.St} {Z : Addr → Prop} {H : Hp} {os : List O} {vs : List V} (h : OsAre g σ Z H os vs) : ∀ pi : List Nat, OsAre g σ Z H (pick pi os) (pick pi vs)
  | [] => .nil
  | i :: pi => by
    unfold pick
    rw [List.filterMap_cons, List.filterMap_cons]
    cases e : os[i]? with
    | none =>
      rw [List.getElem?_eq_none (by rw [h.len]; exact List.getElem?_eq_none_iff.mp e)]
      exact pick_os h pi
    | some o =>
      obtain ⟨v, e1, e2⟩ := h.get e
      rw [e1]
      exact .cons e2 (pick_os h pi)
theorem OsAre.app {g : G0} {σ : L2.St} {Z : Addr → Prop} {H : Hp} : ∀ {os us : List O} {vs ws : List V}, OsAre g σ Z H os vs → OsAre g σ Z H us ws → OsAre g σ Z H (os ++ us) (vs ++ ws)
  | _, _, _, _, .nil, r => r
  | _, _, _, _, .cons h t, r => .cons h (OsAre.app t r)
theorem imm_os {g : G0} {σ : L2.St} {Z : Addr → Prop} {H : Hp} : ∀ {ds : List PyData} {vs : List V}, immVs ds = some vs → OsAre g σ Z H (ds.map O.v) vs
  | [], _, e => by cases e; exact .nil
  | x :: ds, vs, e => by
    have e' : (immV x).bind (fun v => (immVs ds).bind fun vs => some (v :: vs)) = some vs := e
    cases e1 : immV x with
    | none => rw [e1] at e'; cases e'
    | some v =>
      cases e2 : immVs ds with
      | none => rw [e1, e2] at e'; cases e'
      | some us =>
        rw [e1, e2] at e'
        cases e'
        refine .cons ?_ (imm_os e2)
        show RD g.K Z H x v
        cases x <;> first | (cases e1; constructor) | cases e1
theorem pick_vals {vs : List V} {us : List Value} (h : Vals vs us) : ∀ pi : List Nat, Vals (pick pi vs) (pick pi us)
  | [] => .nil
  | i :: pi => by
    unfold pick
    rw [List.filterMap_cons, List.filterMap_cons]
    cases e : vs[i]? with
    | none =>
      rw [List.getElem?_eq_none (by rw [← h.length]; exact List.getElem?_eq_none_iff.mp e)]
      exact pick_vals h pi
    | some o =>
      obtain ⟨v, e1, e2⟩ := h.get e
      rw [e1]
      exact .cons e2 (pick_vals h pi)
theorem run_fnK {X : Cx} {E : WX} {k : Nat} {f : Addr} {fd : FuncData} {ps : List Str} {sp : Sp} {pins : List (Addr × Obj)} {σ : L2.St} {H : Hp} {s : Shared} {Q : VK} {args : Args} {us : List Value} {vs : List V} (F : FnG X.prog X.w X.K X.mg X.base k f fd ps sp) (hgd : X.A.guards = some []) (hr : Room k X.A) (hbt : BindsTo s fd args (ps.zip us))
    (tk : Takes X E) (I : Inv X pins σ H s) (r : Vals vs us) (h : sp vs H Q fun c d H' => E c d σ H') : wpAny (model X.prog X.w) X.A (call (.ref f) args.pos args.kw) (EP X pins σ Q) X.xe s := by
  refine wpAny_call (codeAny_mono (F.run X.A X.stack s H ⟨args.pos, args.kw⟩ us vs Q _ hgd hr I.env0 hbt r h) fun r s' hq => ?_)
  match r, hq with
  | .error e, hq => exact tk e s' (XE.of_call I (fun cls d H' h => h) hq)
  | .ok (.ret u), hq => exact I.after hq
  | .ok .next, hq => exact hq.elim
  | .ok .brk, hq => exact hq.elim
  | .ok .cont, hq => exact hq.elim
theorem callK_read {g : G0} {E : WX} {n : Nat} {Φ : SE} {k : KwE} {as ks : SA} {σ : L2.St} {H : Hp} {Q : VK} {dvs : List V} (hd : immVs k.ds = some dvs) (h : tE g E (callK n Φ k as ks) σ H Q) :
    tA g E as σ H fun vs H1 => tA g E ks σ H1 fun ws H2 => vs.length = k.np ∧ ws.length = k.ks.length ∧ spOf g n Φ (pick k.pi (vs ++ ws ++ dvs)) H2 Q fun c d H' => E c d σ H' := by
  obtain ⟨Z, ρ, Fs, ok, h⟩ := h
  refine ⟨Z, ρ, Fs, ok, (PR.bd h).imp ?_⟩
  rintro vs H1 ⟨os, ρ1, Z1, Fs1, s1, ho, -, st, h1⟩
  refine ⟨Z1, ρ1, Fs1, s1, (PR.bd h1).imp ?_⟩
  rintro ws H2 ⟨us, ρ2, Z2, Fs2, s2, hu, -, st2, h2⟩
  split at h2
  · rename_i hc
    exact ⟨by rw [ho.len]; exact hc.1, by rw [hu.len]; exact hc.2, callO_read s2 (pick_os (((ho.stp s1 st2).app hu).app (imm_os hd)) k.pi) h2⟩
  · exact h2.elim
section
variable {x : Str} {kws : List Keyword} {p pos : Pos} {as ks : SA} {i n lv : Nat} {f : Addr} {fd : FuncData} {ps : List Str} {Φ : SE} {kb : List KwE}
theorem ke_callK {e : Expr} {es : List Expr} (k : KwE) (hD : pm.D i = some ⟨x, ps, f, fd, spOf pm.g n Φ, lv, kb⟩) (hk : k ∈ kb) (hlv : lv ≤ pm.lv) (ha : KA pm ct (e :: es) as) (hw : KK pm ct kws ks)
    (hg : glB ct.sc x = true) (hs : (e :: es).all starB = true) (hall : ∀ env, (backToKw pos (keywordEach kws env)).all (·.1.isSome) = true := by intro _; rfl) (hks : ∀ env, (backToKw pos (keywordEach kws env)).filterMap (·.1) = k.ks := by intro _; rfl) (hno : ∀ env, (backToKw pos (keywordEach kws env)).any (·.1.isNone) = false := by intro _; rfl) :
    KE pm ct (.Call (.Name x p) (e :: es) kws pos) (callK n Φ k as ks) := by
  refine ⟨fun X E xo t => ⟨fun pins s σ H Q I h => ?_⟩⟩
  obtain ⟨d1, d2, d3, d4, d5⟩ := xo.defs i _ hD hlv
  obtain ⟨dvs, dus, hd1, hd2, hb⟩ := d5 k hk
  obtain ⟨h4, h5⟩ := glB_ok hg xo.sc
  simp only [List.all_cons, Bool.and_eq_true] at hs
  refine wpAny_Call_Name_kw (ld_glob I h4 d1 ?_ h5)
  refine PySem.W.callWith_KW (h₀ := X.base) I.ok.mod.kin d2 (hall X.env) (thn ((ha.go X E xo t).run pos pins s σ H _ I (callK_read hd1 h)) fun us s1 ⟨vs, H1, I1, r, q⟩ => ?_) ?_ (star_ok hs.1)
  · refine thn ((hw.go X E xo t).run pos pins s1 σ H1 _ I1 q) fun ws s2 ⟨zs, H2, I2, rz, l1, l2, q2⟩ => ⟨I2.kIn, ?_⟩
    rw [hks X.env]
    exact run_fnK (args := ⟨us, k.ks.zip ws⟩) d4 xo.gd (xo.room.mono hlv) (hb s2 us ws I2.kIn (by rw [← r.length]; exact l1) (by rw [← rz.length]; exact l2)) t I2 (pick_vals ((r.append rz).append hd2) k.pi) q2
  · rw [star_ok hs.1, hno X.env, Bool.or_false]
    show (false || (backTo pos (starEach es X.env)).any (·.1)) = false
    rw [stars_ok hs.2] <;> rfl
theorem ke_callK0 (k : KwE) (hD : pm.D i = some ⟨x, ps, f, fd, spOf pm.g n Φ, lv, kb⟩) (hk : k ∈ kb) (hlv : lv ≤ pm.lv) (hw : KK pm ct kws ks)
    (hg : glB ct.sc x = true) (hall : ∀ env, (backToKw pos (keywordEach kws env)).all (·.1.isSome) = true := by intro _; rfl) (hks : ∀ env, (backToKw pos (keywordEach kws env)).filterMap (·.1) = k.ks := by intro _; rfl) (hno : ∀ env, (backToKw pos (keywordEach kws env)).any (·.1.isNone) = false := by intro _; rfl) :
    KE pm ct (.Call (.Name x p) [] kws pos) (callK n Φ k nilA ks) := by
  refine ⟨fun X E xo t => ⟨fun pins s σ H Q I h => ?_⟩⟩
  obtain ⟨d1, d2, d3, d4, d5⟩ := xo.defs i _ hD hlv
  obtain ⟨dvs, dus, hd1, hd2, hb⟩ := d5 k hk
  obtain ⟨h4, h5⟩ := glB_ok hg xo.sc
  have h6 : tA pm.g E ks σ H fun ws H2 => ([] : List V).length = k.np ∧ ws.length = k.ks.length ∧ spOf pm.g n Φ (pick k.pi ([] ++ ws ++ dvs)) H2 Q fun c d H' => E c d σ H' := by
    obtain ⟨Z, ρ, Fs, ok, q⟩ := callK_read hd1 h
    exact PR0.fin (a := ([] : List O)) (b := ([] : List V)) q ok .nil
  refine wpAny_Call_Name_kw (ld_glob I h4 d1 ?_ h5)
  refine PySem.W.callWith_KW0 (h₀ := X.base) I.ok.mod.kin d2 (hall X.env) (thn ((hw.go X E xo t).run pos pins s σ H _ I h6) fun ws s2 ⟨zs, H2, I2, rz, l1, l2, q2⟩ => ⟨I2.kIn, ?_⟩) (by rw [hno X.env] <;> rfl)
  rw [hks X.env]
  exact run_fnK (args := ⟨[], k.ks.zip ws⟩) d4 xo.gd (xo.room.mono hlv) (hb s2 [] ws I2.kIn l1 (by rw [← rz.length]; exact l2)) t I2 (pick_vals ((show Vals ([] ++ zs) ([] ++ ws) from rz).append hd2) k.pi) q2
end
end
end Ev
set_option Elab.async false
set_option maxRecDepth 100000
set_option maxHeartbeats 4000000
/-! Ev20: lists of owned lists: made by a comprehension, walked and changed. -/
namespace Ev
open PySem PySem.Spec PyProof.Rows L2

section
variable {K : PySem.W.Frag} {Z Z' : Addr → Prop} {H H' : Hp}
theorem RWs.app : ∀ {ws us : List W} {vs zs : List V} {F G : List Addr}, RWs K Z H ws vs F → RWs K Z H us zs G → RWs K Z H (ws ++ us) (vs ++ zs) (F ++ G)
  | _, _, _, _, _, _, .nil, r => r
  | _, _, _, _, _, _, .cons h t, r => by
    rw [List.append_assoc]
    exact .cons h (RWs.app t r)
theorem RWs.len : ∀ {ws : List W} {vs : List V} {F : List Addr}, RWs K Z H ws vs F → vs.length = ws.length
  | _, _, _, .nil => rfl
  | _, _, _, .cons _ r => congrArg (· + 1) (RWs.len r)
theorem RWs.one {w : W} {v : V} {F : List Addr} (h : RW K Z H w v F) : RWs K Z H [w] [v] F := by
  have := RWs.cons h (.nil (K := K) (Z := Z) (H := H))
  rw [List.append_nil] at this
  exact this
theorem Stp.rws {F F' : Addr → Prop} (st : Stp Z F H Z' F' H') (zf : ∀ a, Z a → ¬ F a) {ws : List W} {vs : List V} {G : List Addr} (r : RWs K Z H ws vs G) (hG : ∀ c ∈ G, ¬ F c) : RWs K Z' H' ws vs G :=
  r.keep st.zz (fun a o z q => st.keep a o q (zf a z)) fun a ha o q => st.keep a o q (hG a ha)
theorem Stp.rw_ {F F' : Addr → Prop} (st : Stp Z F H Z' F' H') (zf : ∀ a, Z a → ¬ F a) {w : W} {v : V} {G : List Addr} (r : RW K Z H w v G) (hG : ∀ c ∈ G, ¬ F c) : RW K Z' H' w v G :=
  r.keep st.zz (fun a o z q => st.keep a o q (zf a z)) fun a ha o q => st.keep a o q (hG a ha)
theorem RWs.out {D : Addr} {o : HO} {ws : List W} {vs : List V} {G : List Addr} (r : RWs K Z H ws vs G) (hz : ¬ Z D) (hG : D ∉ G) : RWs K Z (upd H D o) ws vs G :=
  r.keep (fun _ z => z) (fun a o z q => by rw [upd_ne (fun (e : a = D) => hz (e ▸ z))]; exact q) fun a ha o q => by rw [upd_ne (fun (e : a = D) => hG (e ▸ ha))]; exact q
theorem RW.out {D : Addr} {o : HO} {w : W} {v : V} {G : List Addr} (r : RW K Z H w v G) (hz : ¬ Z D) (hG : D ∉ G) : RW K Z (upd H D o) w v G :=
  r.keep (fun _ z => z) (fun a o z q => by rw [upd_ne (fun (e : a = D) => hz (e ▸ z))]; exact q) fun a ha o q => by rw [upd_ne (fun (e : a = D) => hG (e ▸ ha))]; exact q
end
def cowGo (js : List Nat) (tg : ST') (cd : ST) (el : SE) : List PyData → Sl → Option (List W × Sl)
  | [], ρ => some ([], ρ)
  | x :: xs, ρ => match tg x ρ with
    | none => none
    | some ρ2 => match cd ρ2 with
      | .ok true ρ3 => match el ρ3 with
        | .ok y ρ4 => (cowGo js tg cd el xs (hide js ρ4)).map fun p => (y :: p.1, p.2)
        | _ => none
      | .ok false ρ3 => cowGo js tg cd el xs (hide js ρ3)
      | _ => none
def cowR (own : List Nat) (tg : ST') (cd : ST) (el : SE) (sr : Sr) (ρ1 : Sl) : R W :=
  if sr.1.length ≤ 16777216 then match cowGo (own ++ sr.2) tg cd el sr.1 (hide (own ++ sr.2) ρ1) with
    | some p => .ok (.ow p.1) (back (own ++ sr.2) ρ1 p.2)
    | none => .no
  else .no
def cowE (own : List Nat) (tg : ST') (cd : ST) (el : SE) (src : SI) : SE := fun ρ => match src ρ with
  | .ok sr ρ1 => cowR own tg cd el sr ρ1
  | .ex C x ρ1 => .ex C x ρ1
  | .no => .no
structure WInv (g : G0) (js : List Nat) (tg : ST') (cd : ST) (el : SE) (σw : L2.St) (Z1 F1 : Addr → Prop) (H1 : Hp) (D : Addr) (xs : List PyData) (ys : List W) (ρe : Sl) (i : Nat) (H : Hp) : Prop where
  ex : ∃ Z ρ Fs acc vs ys' G, SOk g.K Z H ρ σw Fs ∧ cowGo js tg cd el (xs.drop i) ρ = some (ys', ρe) ∧ ys = acc ++ ys' ∧ acc.length ≤ i ∧ H D = some (.lst vs) ∧ RWs g.K Z H acc vs G ∧ (D :: G).Nodup ∧ (∀ c ∈ D :: G, ¬ Z c) ∧ (∀ c ∈ D :: G, ¬ Tot Fs c) ∧ (∀ c ∈ G, F1 c ∨ H1 c = none) ∧ Stp Z1 F1 H1 Z (Tot Fs) H
section
variable {pm : Pm} {ct : Ct} {tg iter elt : Expr} {ifs : List Expr} {ts : ST'} {ws : List Nat} {cd : ST} {el : SE} {src : SI} {scope : Scope} {own : List (Str × Nat)} {pos : Pos}
theorem cow_read {g : G0} {E : WX} {σ : L2.St} {H : Hp} {Q : VK} {vs : List Nat} (hw : ∀ j ∈ ws, j ∈ vs) (h : tE g E (cowE vs ts cd el src) σ H Q) :
    tLc (tI g E src) (tG g ts ws) (tT g (fun _ _ _ _ => False) cd) (tE g (fun _ _ _ _ => False) el) vs σ H Q := by
  obtain ⟨Z, ρ, Fs, s0, h⟩ := h
  refine ⟨Z, ρ, Fs, s0, ?_⟩
  unfold cowE at h
  cases e0 : src ρ with
  | no => rw [e0] at h; exact h
  | ex C x ρ1 => rw [e0] at h; exact h
  | ok sr ρ1 =>
    rw [e0] at h
    intro J Z1 H1 Fs1 Hd s1 jok hd hkeep st1 D hD
    have h : PR g E σ (rW g) (cowR vs ts cd el sr ρ1) Z (Tot Fs) H Q := h
    unfold cowR at h
    split at h
    · rename_i hlen
      split at h
      · rename_i p e1
        obtain ⟨pys, ρe⟩ := p
        generalize hjs : vs ++ sr.2 = js at h e1
        have vj : ∀ j ∈ vs, j ∈ js := fun j hj => by rw [← hjs]; exact List.mem_append_left _ hj
        have sh : SOk g.K Z1 H1 (Ev.hide js ρ1) (wipe σ vs) (hideF js Fs1) := s1.hide (wipe_length _ _) fun k hk => by rw [wipe_get, if_neg (fun z => hk (vj k z))]
        have hsub : ∀ a, Tot (hideF js Fs1) a → Tot (hideF sr.2 Fs1) a := fun a ⟨k, z⟩ => by
          obtain ⟨z1, z2⟩ := hideF_sub z
          refine ⟨k, ?_⟩
          unfold hideF
          rw [if_neg (fun y => z2 (by rw [← hjs]; exact List.mem_append_right _ y))]
          exact z1
        refine ⟨fun i m H => m = sr.1.length - i ∧ i ≤ sr.1.length ∧ WInv g js ts cd el (wipe σ vs) Z1 (Tot (hideF js Fs1)) H1 D sr.1 pys ρe i H, ⟨sr.1.length, by simp, Nat.zero_le _, ?_⟩, ?_⟩
        · refine ⟨⟨Z1, Ev.hide js ρ1, hideF js Fs1, [], [], pys, [], sh.newF hD, e1, rfl, Nat.le_refl _, upd_same, .nil, by simp, fun c hc z => ?_, fun c hc z => ?_, fun c hc => (nomatch hc), Stp.refl.out hD⟩⟩
          · rw [List.mem_singleton.mp hc] at z
            exact s1.zd D z hD
          · rw [List.mem_singleton.mp hc] at z
            obtain ⟨k, z⟩ := z
            exact s1.laid (hideF_sub z).1 hD
        · rintro i m H2 ⟨rfl, hi, ⟨Z2, ρ2, Fs2, acc, accv, ys', G, s2, e2, ey, hal, hDv, racc, nG, zG, fG, hG1, st2⟩⟩
          have hd2 : Hd Z2 H2 := hkeep _ Z2 _ H2 hsub st2
          obtain ⟨j1, j2, j3⟩ := jok Z2 H2 hd2
          have fD : ¬ Tot Fs2 D := fG D List.mem_cons_self
          have zD : ¬ Z2 D := zG D List.mem_cons_self
          by_cases hlt : i < sr.1.length
          · refine .inr ⟨j1 i hlt, WInv g js ts cd el (wipe σ vs) Z1 (Tot (hideF js Fs1)) H1 D sr.1 pys ρe (i + 1), fun H' q => ⟨sr.1.length - (i + 1), by omega, rfl, hlt, q⟩, fun v H' y => ?_⟩
            obtain ⟨x, hx, yl⟩ := j3 i v H' hlt y
            obtain ⟨Z3, s3, rx, st3⟩ := yl.step s2 s2.zf
            have ed : sr.1.drop i = x :: sr.1.drop (i + 1) := by
              rw [List.drop_eq_getElem_cons hlt]
              congr 1
              rw [List.getElem?_eq_getElem hlt] at hx
              exact Option.some.inj hx
            rw [ed] at e2
            unfold cowGo at e2
            have there : ∀ c ∈ D :: G, H2 c ≠ none := fun c hc => by
              rcases List.mem_cons.mp hc with e | hc
              · rw [e, hDv]; exact fun z => (nomatch z)
              · exact racc.laid c hc
            refine ⟨Z3, ρ2, Fs2, x, s3, rx, ?_⟩
            cases e3 : ts x ρ2 with
            | none => rw [e3] at e2; cases e2
            | some ρ3 =>
              rw [e3] at e2
              intro σ4 Fs4 s4 l4 k4 f4
              have hwipe : wipe σ4 vs = wipe σ vs := wipe_eq (by rw [l4, wipe_length]) k4 hw
              have back4 : ∀ {Z5 : Addr → Prop} {ρ5 : Sl} {Fs5 : Nat → List Addr} {H5 : Hp}, SOk g.K Z5 H5 ρ5 σ4 Fs5 → SOk g.K Z5 H5 (Ev.hide js ρ5) (wipe σ vs) (hideF js Fs5) := fun s5 =>
                s5.hide (by rw [l4]) fun k hk => (k4 k fun z => hk (vj k (hw k z))).symm
              have st34 : Stp Z2 (Tot Fs2) H2 Z3 (Tot Fs4) H' := st3.wk (fun _ z => z) fun c z => .inl (f4 c z)
              have st4 : Stp Z1 (Tot (hideF js Fs1)) H1 Z3 (Tot Fs4) H' := st2.trans st34
              refine ⟨hwipe, Z3, ρ3, Fs4, s4, ?_⟩
              -- what stays behind further steps
              have after : ∀ {ρ5 : Sl} {Z5 F5 : Addr → Prop} {H5 : Hp}, Stp Z3 (Tot Fs4) H' Z5 F5 H5 →
                  H5 D = some (.lst accv) ∧ RWs g.K Z5 H5 acc accv G ∧ (∀ c ∈ D :: G, ¬ Z5 c) ∧ (∀ c ∈ D :: G, ¬ F5 c) := fun st5 => by
                have st := st34.trans st5
                refine ⟨st.keep D _ hDv fD, st.rws s2.zf racc fun c hc => fG c (List.mem_cons_of_mem _ hc), fun c hc z => ?_, fun c hc z => ?_⟩
                · rcases st.zsub c z with z | z | z
                  · exact zG c hc z
                  · exact fG c hc z
                  · exact there c hc z
                · rcases st.fsub c z with z | z
                  · exact fG c hc z
                  · exact there c hc z
              have e4 : (match cd ρ3 with | .ok true ρ3 => (match el ρ3 with | .ok y ρ4 => (cowGo js ts cd el (sr.1.drop (i + 1)) (hide js ρ4)).map fun p => (y :: p.1, p.2) | _ => none) | .ok false ρ3 => cowGo js ts cd el (sr.1.drop (i + 1)) (hide js ρ3) | _ => none) = some (ys', ρe) := e2
              cases e5 : cd ρ3 with
              | no => rw [e5] at e4; cases e4
              | ex C x ρ' => rw [e5] at e4; cases e4
              | ok b ρ5 =>
                rw [e5] at e4
                intro b' Z5 H5 Fs5 s5 hb st5
                cases hb
                obtain ⟨a2, a3, a4, a5⟩ := after (ρ5 := ρ5) st5
                cases b with
                | false =>
                  exact ⟨⟨Z5, Ev.hide js ρ5, hideF js Fs5, acc, accv, ys', G, back4 s5, e4, ey, Nat.le_succ_of_le hal, a2, a3, nG, a4, fun c hc ⟨k, z⟩ => a5 c hc ⟨k, (hideF_sub z).1⟩, hG1, (st4.trans st5).wk (fun _ z => z) fun c ⟨k, z⟩ => .inl ⟨k, (hideF_sub z).1⟩⟩⟩
                | true =>
                  rw [if_pos rfl]
                  refine ⟨Z5, ρ5, Fs5, s5, ?_⟩
                  have e6 : (match el ρ5 with | .ok y ρ4 => (cowGo js ts cd el (sr.1.drop (i + 1)) (hide js ρ4)).map fun p => (y :: p.1, p.2) | _ => none) = some (ys', ρe) := e4
                  cases e7 : el ρ5 with
                  | no => rw [e7] at e6; cases e6
                  | ex C x ρ' => rw [e7] at e6; cases e6
                  | ok y ρ6 =>
                    rw [e7] at e6
                    intro yv Z6 H6 Fs6 T s6 ry tn tz tf st6
                    obtain ⟨b2, b3, b4, b5⟩ := after (ρ5 := ρ6) (st5.trans st6)
                    have ally := (st4.trans st5).trans st6
                    refine ⟨accv, b2, ?_, ?_⟩
                    · rw [b3.len]
                      show _ < 16777216
                      omega
                    · replace e6 : (cowGo js ts cd el (sr.1.drop (i + 1)) (hide js ρ6)).map (fun p => (y :: p.1, p.2)) = some (ys', ρe) := e6
                      cases e8 : cowGo js ts cd el (sr.1.drop (i + 1)) (hide js ρ6) with
                      | none => rw [e8] at e6; cases e6
                      | some q =>
                        rw [e8] at e6
                        cases e6
                        have noT : ∀ c ∈ D :: G, c ∉ T := fun c hc z => b5 c hc (.inr z)
                        have b4D := b4 D List.mem_cons_self
                        refine ⟨⟨Z6, Ev.hide js ρ6, hideF js Fs6, acc ++ [y], accv ++ [yv], q.1, G ++ T, (back4 s6).out b4D fun ⟨k, z⟩ => b5 D List.mem_cons_self (.inl ⟨k, (hideF_sub z).1⟩), e8, by rw [ey]; simp, ?_, upd_same,
                          (b3.out b4D (List.nodup_cons.mp nG).1).app (RWs.one (ry.out b4D (noT D List.mem_cons_self))), ?_, fun c hc => ?_, fun c hc ⟨k, z⟩ => ?_, fun c hc => ?_, ((ally.wk (fun _ z => z) fun c ⟨k, z⟩ => .inl (.inl ⟨k, (hideF_sub z).1⟩)).out hD)⟩⟩
                        · simp
                          omega
                        · show (D :: (G ++ T)).Nodup
                          rw [← List.cons_append, List.nodup_append]
                          exact ⟨nG, tn, fun a ha b hb e => noT a ha (e ▸ hb)⟩
                        · rcases List.mem_append.mp (show c ∈ (D :: G) ++ T from hc) with hc | hc
                          · exact b4 c hc
                          · exact tz c hc
                        · rcases List.mem_append.mp (show c ∈ (D :: G) ++ T from hc) with hc | hc
                          · exact b5 c hc (.inl ⟨k, (hideF_sub z).1⟩)
                          · exact tf c hc ⟨k, (hideF_sub z).1⟩
                        · rcases List.mem_append.mp hc with hc | hc
                          · exact hG1 c hc
                          · exact ally.fsub c (.inr hc)
          · have hil : i = sr.1.length := by omega
            subst hil
            refine .inl ⟨j2 _ (Nat.le_refl _), ?_⟩
            rw [List.drop_length] at e2
            cases e2
            rw [List.append_nil] at ey
            have hl2 : ρe.length = ρ1.length := by rw [← s2.len, wipe_length, s1.len]
            have off : ∀ c ∈ D :: G, ∀ k, k ∈ js → c ∉ Fs1 k := fun c hc k hk z => by
              rcases List.mem_cons.mp hc with e | hc
              · rw [e] at z
                exact s1.laid z hD
              · rcases hG1 c hc with ⟨l, y⟩ | y
                · obtain ⟨y1, y2⟩ := hideF_sub y
                  exact s1.dis k l c (fun e => y2 (e ▸ hk)) z y1
                · exact s1.laid z y
            refine h (.ref D) Z2 H2 (backF js Fs1 Fs2) (D :: G) (s1.unhide s2 st2 hl2 rfl (fun _ _ => rfl) fun k hk => by rw [wipe_get, if_neg (fun z => hk (vj k z))]) (.ow hDv (by rw [ey]; exact racc)) nG zG (fun c hc ⟨k, z⟩ => ?_) ?_
            · unfold backF at z
              split at z
              · exact off c hc k (by assumption) z
              · exact fG c hc ⟨k, z⟩
            · exact (st1.trans st2.unhide).wk (fun _ z => z) fun c z => by
                rcases z with z | z
                · exact .inl z
                · rcases List.mem_cons.mp z with e | z
                  · rw [e]
                    exact .inr (.inr (st1.dom D hD))
                  · rcases hG1 c z with ⟨l, y⟩ | y
                    · exact (st1.fsub c ⟨l, (hideF_sub y).1⟩).elim (fun f => .inr (.inl ⟨f, fun n => by
                        obtain ⟨m, f⟩ := f
                        exact s0.laid f n⟩)) fun n => .inr (.inr n)
                    · exact .inr (.inr (st1.dom c y))
      · exact h.elim
    · exact h.elim
theorem ke_lcW (hi : KI pm ct tg iter src) (hg : KG pm (blkCt ct scope) tg ts ws) (hc : KTs pm (blkCt ct scope) ifs cd) (he : KE pm (blkCt ct scope) elt el) (hb : blkC ct.N ct.sc scope own = true) (hw : ws.all (fun j => (own.map (·.2)).contains j) = true)
    (hs : ∀ env x, foldedSetIterable iter env x = pure x := by intro _ _; rfl) : KE pm ct (.ListComp elt [⟨tg, iter, ifs, 0⟩] scope pos) (cowE (own.map (·.2)) ts cd el src) := by
  refine ⟨fun X E xo t => (pe_lc xo.calm (by rw [xo.hN]; exact xo.nd) (hi.go X E xo t) (by rw [xo.hN, xo.sc]; exact blkOk_by hb) (fun s H C cl fp => hg.go _ xo.blk) (fun s H C cl fp => hc.go _ _ xo.blk tk0) (fun s H C cl fp => he.go _ _ xo.blk tk0) (hs X.env)).imp fun σ H Q h => ?_⟩
  exact cow_read (fun j hj => List.contains_iff_mem.mp (List.all_eq_true.mp hw j hj)) h
theorem ks_setLcW {ct : Ct} {us : List Nat} {x : Str} {i : Nat} {p lp : Pos} (hi : KI pm ct tg iter src) (hg : KG pm (blkCt ct scope) tg ts us) (hc : KTs pm (blkCt ct scope) ifs cd) (he : KE pm (blkCt ct scope) elt el) (hb : blkC ct.N ct.sc scope own = true) (hu : us.all (fun j => (own.map (·.2)).contains j) = true) (hn : ct.N[i]? = some x) (hv : ct.sc.names.lookup x = some .local) (hw : ws.contains i = true)
    (hl : (p.line == lp.line) = true) (ha : (scope.names.any fun (n, k) => n == x && (k == .local || k == .cell)) = false) (hk : ct.sc.kind = .function) (hs : ∀ env v, foldedSetIterable iter env v = pure v := by intro _ _; rfl) :
    KS pm ct ws (.Assign [.Name x p] (.ListComp elt [⟨tg, iter, ifs, 0⟩] scope lp) pos) (asS i (cowE (own.map (·.2)) ts cd el src)) := by
  refine ⟨fun X E xo c tk po => ?_⟩
  have hlk : X.env.scope.names.lookup x = some .local := by rw [xo.sc]; exact hv
  refine (ps_setLc xo.calm (by rw [xo.hN]; exact xo.nd) (by rw [xo.hN]; exact hn) hlk (sw_true (by rw [xo.sc]; exact hk) hlk hl ha) (hi.go X E xo tk) (by rw [xo.hN, xo.sc]; exact blkOk_by hb) (fun s H C cl fp => hg.go _ xo.blk) (fun s H C cl fp => hc.go _ _ xo.blk tk0) (fun s H C cl fp => he.go _ _ xo.blk tk0) (hs X.env)).imp fun D σ H h => ?_
  exact cow_read (fun j hj => List.contains_iff_mem.mp (List.all_eq_true.mp hu j hj)) (as_read hw h)
end
end Ev
set_option Elab.async false
set_option maxRecDepth 100000
set_option maxHeartbeats 4000000
/-! Ev21: a list of owned lists is walked, each one changed. -/
namespace Ev
open PySem PySem.Spec PyProof.Rows L2

section
variable {K : PySem.W.Frag} {Z Z' : Addr → Prop} {H H' : Hp}
theorem RWs.split : ∀ {ws us : List W} {vs : List V} {F : List Addr}, RWs K Z H (ws ++ us) vs F → ∃ va vb Fa Fb, vs = va ++ vb ∧ F = Fa ++ Fb ∧ RWs K Z H ws va Fa ∧ RWs K Z H us vb Fb
  | [], us, vs, F, h => ⟨[], vs, [], F, rfl, rfl, .nil, h⟩
  | w :: ws, us, _, _, .cons h r => by
    obtain ⟨va, vb, Fa, Fb, e1, e2, r1, r2⟩ := RWs.split r
    subst e1 e2
    exact ⟨_ :: va, vb, _ ++ Fa, Fb, rfl, (List.append_assoc _ _ _).symm, .cons h r1, r2⟩
end
def owGo (i j : Nat) (b : SS) : List W → List W → SS
  | [], dn, ρ => .nx (pt ρ j (some (.ow dn)))
  | w :: r, dn, ρ => match b (pt ρ i (some w)) with
    | .nx ρ2 => match gt ρ2 i with
      | some w2 => owGo i j b r (dn ++ [w2]) (pt (pt ρ2 i none) j none)
      | none => .no
    | .ct ρ2 => match gt ρ2 i with
      | some w2 => owGo i j b r (dn ++ [w2]) (pt (pt ρ2 i none) j none)
      | none => .no
    | _ => .no
def forOwS (i j : Nat) (b : SS) : SS := fun ρ => match gt ρ j with
  | some (.ow ws) => if i < ρ.length ∧ i ≠ j then owGo i j b ws [] (pt (pt ρ i none) j none) else .no
  | _ => .no
theorem set_self {σ : L2.St} {j : Nat} {v : Option V} (h : σ[j]? = some v) : σ.set j v = σ := by
  apply List.ext_getElem?
  intro k
  by_cases e : k = j
  · subst e
    have hl : k < σ.length := by
      by_cases hl : k < σ.length
      · exact hl
      · rw [List.getElem?_eq_none (by omega)] at h
        cases h
    rw [List.getElem?_set_self hl, h]
  · rw [List.getElem?_set_ne (Ne.symm e)]
theorem setF_tot {Fs : Nat → List Addr} {i : Nat} {T : List Addr} {c : Addr} (h : Tot (setF Fs i T) c) : Tot Fs c ∨ c ∈ T := by
  obtain ⟨k, z⟩ := h
  unfold setF at z
  split at z
  · exact .inr z
  · exact .inl ⟨k, z⟩
structure OInv (g : G0) (ws : List Nat) (i j : Nat) (b : SS) (σ0 : L2.St) (Z0 F0 : Addr → Prop) (H0 : Hp) (p : Addr) (vs : List V) (r : SR) (k : Nat) (σ : L2.St) (H : Hp) : Prop where
  ex : ∃ Z ρ Fs dn rest F, SOk g.K Z H ρ σ Fs ∧ Ag ws σ0 σ ∧ σ[j]? = some (some (.ref p)) ∧ Fs i = [] ∧ Fs j = [] ∧ i < ρ.length ∧ j < ρ.length ∧ H p = some (.lst vs) ∧ RWs g.K Z H (dn ++ rest) vs F ∧ dn.length = k ∧ (p :: F).Nodup ∧ (∀ c ∈ p :: F, ¬ Z c) ∧ (∀ c ∈ p :: F, ¬ Tot Fs c) ∧
    Stp Z0 F0 H0 Z (fun c => Tot Fs c ∨ c ∈ p :: F) H ∧ owGo i j b rest dn ρ = r
section
variable {pm : Pm} {ct : Ct} {ws us : List Nat} {pos : Pos} {body : List Stmt} {b : SS}
theorem ks_forOw {x t : Str} {i j : Nat} {px pt' : Pos} (hb : KSs pm ct us body b) (hx : ct.N[i]? = some x) (hxs : stoB ct x = true) (ht : ct.N[j]? = some t) (htv : visB ct.sc t = true) (hui : us.contains i = false) (huj : us.contains j = false) (hu : us.all (fun k => ws.contains k) = true) (hw : ws.contains i = true) :
    KS pm ct ws (.For (.Name x px) (.Name t pt') body [] pos) (forOwS i j b) := by
  have niu : i ∉ us := fun z => by rw [List.contains_iff_mem.mpr z] at hui; cases hui
  have nju : j ∉ us := fun z => by rw [List.contains_iff_mem.mpr z] at huj; cases huj
  refine ⟨fun X E xo ctl tk po => ?_⟩
  obtain ⟨sx1, sx2⟩ := sto_ok hxs xo
  refine (ps_for po xo.calm (pi_list (pe_nm xo ht htv)) (pg_name (by rw [xo.hN]; exact xo.nd) (by rw [xo.hN]; exact hx) sx1 sx2) (hb.go X E xo ctl tk po) (fun _ => rfl)).imp fun D σ H ⟨Z, ρ, Fs, s0, h⟩ => ?_
  unfold forOwS at h
  split at h
  · rename_i wsl ej
    split at h
    · rename_i hc
      obtain ⟨hil, hij⟩ := hc
      obtain ⟨u, hu1, hu2⟩ := s0.here j _ ej
      have hjl := gt_lt ej
      generalize hFj : Fs j = Fj at hu2
      cases hu2 with
      | @ow p vs _ F0 hp r0 =>
        generalize hr : owGo i j b wsl [] (pt (pt ρ i none) j none) = r at h
        have hnd : (p :: F0).Nodup := by rw [← hFj]; exact s0.nd j
        have s1 := (s0.drop (i := i) (σ' := σ) rfl fun _ _ => rfl).drop (i := j) (σ' := σ) rfl fun _ _ => rfl
        have tot1 : ∀ c, Tot (setF (setF Fs i []) j []) c → Tot Fs c ∧ c ∉ Fs j := fun c ⟨k, z⟩ => by
          by_cases ekj : k = j
          · rw [ekj, setF_same] at z
            cases z
          · rw [setF_ne ekj] at z
            by_cases eki : k = i
            · rw [eki, setF_same] at z
              cases z
            · rw [setF_ne eki] at z
              exact ⟨⟨k, z⟩, fun y => s0.dis k j c ekj z y⟩
        refine ⟨.ref p, hu1, p, rfl, ⟨vs, .inl (.inl hp)⟩, fun k m σ' H' => m = vs.length - k ∧ k ≤ vs.length ∧ OInv pm.g ws i j b σ Z (Tot Fs) H p vs r k σ' H', ⟨vs.length, by simp, Nat.zero_le _, ⟨⟨Z, _, _, [], wsl, F0, s1, .refl, hu1, ?_, setF_same, by rw [pt_len, pt_len]; exact hil, by rw [pt_len, pt_len]; exact hjl, hp, r0, rfl, hnd, fun c hc => s0.nz j c (by rw [hFj]; exact hc), fun c hc z => (tot1 c z).2 (by rw [hFj]; exact hc), ?_, hr⟩⟩⟩, ?_⟩
        · rw [setF_ne hij, setF_same]
        · exact Stp.refl.wk (fun _ z => z) fun c z => by
            rcases z with z | z
            · exact .inl (tot1 c z).1
            · exact .inl ⟨j, by rw [hFj]; exact z⟩
        · rintro k m σ2 H2 ⟨rfl, hk, ⟨⟨Z2, ρ2, Fs2, dn, rest, F, s2, ag2, hσj, fi0, fj0, hil2, hjl2, hp2, rr, hdn, nd2, nz2, nf2, st2, e2⟩⟩⟩
          have h2 : PSR pm.g E ws σ2 D r Z2 (fun c => Tot Fs2 c ∨ c ∈ p :: F) H2 := h.step ag2 st2
          have hl2 := rr.len
          rw [List.length_append, hdn] at hl2
          have laid2 : ∀ c ∈ p :: F, H2 c ≠ none := fun c hc => by
            rcases List.mem_cons.mp hc with e | hc
            · rw [e, hp2]; exact fun z => (nomatch z)
            · exact rr.laid c hc
          cases rest with
          | nil =>
            have hkl : k = vs.length := by simp at hl2; omega
            subst hkl
            refine .inl ⟨⟨vs, by rw [xo.hK]; exact .inl (.inl hp2), Nat.le_refl _⟩, ?_⟩
            unfold owGo at e2
            rw [← e2] at h2
            rw [List.append_nil] at rr
            have s3 := s2.setW (i := j) hjl2 (w := .ow dn) (v := .ref p) (.ow hp2 rr) nd2 nz2 nf2
            rw [set_self hσj] at s3
            refine h2 σ2 Z2 H2 _ s3 .refl (Stp.refl.wk (fun _ z => z) fun c z => .inl ?_)
            exact setF_tot z
          | cons w rest =>
            have hkl : k < vs.length := by simp at hl2; omega
            obtain ⟨va, vb, Fa, Fb, e3, e4, ra, rb⟩ := rr.split
            subst e3 e4
            cases rb with
            | @cons _ v Fw _ vr Fr rw1 rr1 =>
              have hva : va.length = k := by rw [ra.len, hdn]
              have hvk : (va ++ v :: vr)[k]? = some v := by rw [← hva]; simp
              unfold owGo at e2
              have zw : v = v := rfl
              -- where the addresses are
              have in_a : ∀ c ∈ Fa, c ∈ p :: (Fa ++ (Fw ++ Fr)) := fun c hc => List.mem_cons_of_mem _ (List.mem_append_left _ hc)
              have in_w : ∀ c ∈ Fw, c ∈ p :: (Fa ++ (Fw ++ Fr)) := fun c hc => List.mem_cons_of_mem _ (List.mem_append_right _ (List.mem_append_left _ hc))
              have in_r : ∀ c ∈ Fr, c ∈ p :: (Fa ++ (Fw ++ Fr)) := fun c hc => List.mem_cons_of_mem _ (List.mem_append_right _ (List.mem_append_right _ hc))
              obtain ⟨n1, n2⟩ := List.nodup_cons.mp nd2
              obtain ⟨n3, n4, n5⟩ := List.nodup_append.mp n2
              obtain ⟨n6, n7, n8⟩ := List.nodup_append.mp n4
              -- the row stands in its slot
              have s3 := s2.setW (i := i) hil2 rw1 n6 (fun c hc => nz2 c (in_w c hc)) fun c hc => nf2 c (in_w c hc)
              have t3 : ∀ c, Tot (setF Fs2 i Fw) c → Tot Fs2 c ∨ c ∈ Fw := fun c z => setF_tot z
              have notin : ∀ c, c = p ∨ c ∈ Fa ∨ c ∈ Fr → ¬ Tot (setF Fs2 i Fw) c := fun c hc z => by
                rcases t3 c z with z | z
                · rcases hc with e | hc | hc
                  · exact nf2 c (by rw [e]; exact List.mem_cons_self) z
                  · exact nf2 c (in_a c hc) z
                  · exact nf2 c (in_r c hc) z
                · rcases hc with e | hc | hc
                  · rw [e] at z
                    exact n1 (List.mem_append_right _ (List.mem_append_left _ z))
                  · exact n5 c hc c (List.mem_append_left _ z) rfl
                  · exact n8 c z c hc rfl
              refine .inr ⟨⟨va ++ v :: vr, v, by rw [xo.hK]; exact .inl (.inl hp2), hvk⟩, fun σ' H' => OInv pm.g ws i j b σ Z (Tot Fs) H p (va ++ v :: vr) r (k + 1) σ' H', fun σ' H' q => ⟨(va ++ v :: vr).length - (k + 1), by omega, rfl, hkl, q⟩, fun x H' y => ?_⟩
              obtain ⟨rfl, y⟩ := y
              have ex : x = v := by
                have := y (va ++ v :: vr) (by rw [xo.hK]; exact .inl (.inl hp2))
                rw [hvk] at this
                exact (Option.some.inj this).symm
              subst ex
              refine ⟨Z2, _, _, s3, ?_⟩
              -- behind a turn
              have turn : ∀ {ρ3 : Sl}, (match gt ρ3 i with | some w2 => owGo i j b rest (dn ++ [w2]) (pt (pt ρ3 i none) j none) | none => .no) = r →
                  ∀ σ4 Z4 H4 Fs4, SOk pm.g.K Z4 H4 ρ3 σ4 Fs4 → Ag us (σ2.set i (some x)) σ4 → Stp Z2 (Tot (setF Fs2 i Fw)) H' Z4 (Tot Fs4) H4 → OInv pm.g ws i j b σ Z (Tot Fs) H p (va ++ x :: vr) r (k + 1) σ4 H4 := fun {ρ3} e5 σ4 Z4 H4 Fs4 s4 ag4 st4 => by
                cases e6 : gt ρ3 i with
                | none =>
                  rw [e6] at e5
                  rw [← e5] at h2
                  exact h2.elim
                | some w2 =>
                  rw [e6] at e5
                  obtain ⟨v4, hv4, rw4⟩ := s4.here i w2 e6
                  have ev4 : v4 = x := by
                    rw [ag4.out i niu, List.getElem?_set_self (by rw [s2.len]; exact hil2)] at hv4
                    exact (Option.some.inj (Option.some.inj hv4)).symm
                  subst ev4
                  have keepP : ∀ c, c = p ∨ c ∈ Fa ∨ c ∈ Fr → ¬ Z4 c ∧ ¬ Tot Fs4 c := fun c hc => by
                    have hin : c ∈ p :: (Fa ++ (Fw ++ Fr)) := by
                      rcases hc with e | hc | hc
                      · rw [e]; exact List.mem_cons_self
                      · exact in_a c hc
                      · exact in_r c hc
                    refine ⟨fun z => ?_, fun z => ?_⟩
                    · rcases st4.zsub c z with z | z | z
                      · exact nz2 c hin z
                      · exact notin c hc z
                      · exact laid2 c hin z
                    · rcases st4.fsub c z with z | z
                      · exact notin c hc z
                      · exact laid2 c hin z
                  have zf2 : ∀ a, Z2 a → ¬ Tot (setF Fs2 i Fw) a := s3.zf
                  have ra4 := st4.rws zf2 ra fun c hc => notin c (.inr (.inl hc))
                  have rr4 := st4.rws zf2 rr1 fun c hc => notin c (.inr (.inr hc))
                  have hp4 := st4.keep p _ hp2 (notin p (.inl rfl))
                  have s5 := (s4.drop (i := i) (σ' := σ4) rfl fun _ _ => rfl).drop (i := j) (σ' := σ4) rfl fun _ _ => rfl
                  have t5 : ∀ c, Tot (setF (setF Fs4 i []) j []) c → Tot Fs4 c ∧ c ∉ Fs4 i := fun c ⟨q, z⟩ => by
                    by_cases ekj : q = j
                    · rw [ekj, setF_same] at z
                      cases z
                    · rw [setF_ne ekj] at z
                      by_cases eki : q = i
                      · rw [eki, setF_same] at z
                        cases z
                      · rw [setF_ne eki] at z
                        exact ⟨⟨q, z⟩, fun y => s4.dis q i c eki z y⟩
                  have hl4 : ρ3.length = ρ2.length := by rw [← s4.len, ag4.len, List.length_set, s2.len]
                  have cases4 : ∀ c ∈ p :: (Fa ++ (Fs4 i ++ Fr)), (c = p ∨ c ∈ Fa ∨ c ∈ Fr) ∨ c ∈ Fs4 i := fun c hc => by
                    rcases List.mem_cons.mp hc with e | hc
                    · exact .inl (.inl e)
                    · rcases List.mem_append.mp hc with hc | hc
                      · exact .inl (.inr (.inl hc))
                      · rcases List.mem_append.mp hc with hc | hc
                        · exact .inr hc
                        · exact .inl (.inr (.inr hc))
                  refine ⟨⟨Z4, _, _, dn ++ [w2], rest, Fa ++ (Fs4 i ++ Fr), s5, (ag2.trans (Ag.set hw)).trans ⟨ag4.len, fun q hq => ag4.out q fun z => hq (List.contains_iff_mem.mp (List.all_eq_true.mp hu q z))⟩, ?_, by rw [setF_ne hij, setF_same], setF_same, by rw [pt_len, pt_len, hl4]; exact hil2, by rw [pt_len, pt_len, hl4]; exact hjl2, hp4, ?_, by rw [List.length_append, hdn]; rfl, ?_, ?_, ?_, ?_, e5⟩⟩
                  · rw [ag4.out j nju, List.getElem?_set_ne hij]
                    exact hσj
                  · rw [List.append_assoc]
                    exact ra4.app (.cons rw4 rr4)
                  · refine List.nodup_cons.mpr ⟨fun z => ?_, List.nodup_append.mpr ⟨n3, List.nodup_append.mpr ⟨s4.nd i, n7, fun a ha c hc e => ?_⟩, fun a ha c hc e => ?_⟩⟩
                    · rcases List.mem_append.mp z with z | z
                      · exact n1 (List.mem_append_left _ z)
                      · rcases List.mem_append.mp z with z | z
                        · exact (keepP p (.inl rfl)).2 ⟨i, z⟩
                        · exact n1 (List.mem_append_right _ (List.mem_append_right _ z))
                    · exact (keepP c (.inr (.inr hc))).2 ⟨i, e ▸ ha⟩
                    · rcases List.mem_append.mp hc with hc | hc
                      · exact (keepP a (.inr (.inl ha))).2 ⟨i, e ▸ hc⟩
                      · exact n5 a ha c (List.mem_append_right _ hc) e
                  · intro c hc
                    rcases cases4 c hc with hc | hc
                    · exact (keepP c hc).1
                    · exact s4.nz i c hc
                  · intro c hc z
                    rcases cases4 c hc with hc | hc
                    · exact (keepP c hc).2 (t5 c z).1
                    · exact (t5 c z).2 hc
                  · refine st2.trans (st4.wk (fun c z => ?_) fun c z => ?_)
                    · rcases t3 c z with z | z
                      · exact .inl z
                      · exact .inr (in_w c z)
                    · rcases z with z | z
                      · exact .inl (t5 c z).1
                      · rcases cases4 c z with hc | hc
                        · refine .inr (.inl ⟨.inr ?_, laid2 c ?_⟩)
                          all_goals
                            rcases hc with e | hc | hc
                            · rw [e]; exact List.mem_cons_self
                            · exact in_a c hc
                            · exact in_r c hc
                        · exact .inl ⟨i, hc⟩
              cases eb : b (pt ρ2 i (some w)) with
              | nx ρ3 => rw [eb] at e2; exact turn e2
              | ct ρ3 => rw [eb] at e2; exact turn e2
              | bk ρ3 => rw [eb] at e2; rw [← e2] at h2; exact h2.elim
              | rt w3 ρ3 => rw [eb] at e2; rw [← e2] at h2; exact h2.elim
              | ex C y ρ3 => rw [eb] at e2; rw [← e2] at h2; exact h2.elim
              | no => rw [eb] at e2; rw [← e2] at h2; exact h2.elim
    · exact h.elim
  · exact h.elim
end
end Ev
set_option Elab.async false
set_option maxRecDepth 100000
set_option maxHeartbeats 4000000
/-! Ev22: a list or a text is walked; a comprehension stored in a captured name. -/
namespace Ev
open PySem PySem.Spec PyProof.Rows L2
def anyS (a : SO) : SI := fun ρ => (a ρ).bd fun o ρ1 => match srO ρ1 o with
  | some sr => .ok sr ρ1
  | none => match lk ρ1 o with
    | some (.str z) => .ok (z.cps.toList.map fun c => .str ⟨#[c]⟩, []) ρ1
    | _ => .no
section
variable {pm : Pm} {ct : Ct} {ws : List Nat} {tg e : Expr} {sa : SO} {pos : Pos}
theorem anyS_or {ρ : Sl} : anyS sa ρ = seqS sa ρ ∨ anyS sa ρ = strS sa ρ := by
  unfold anyS seqS strS
  cases sa ρ with
  | no => exact .inl rfl
  | ex C x ρ1 => exact .inl rfl
  | ok o ρ1 =>
    simp only [bd_ok]
    cases srO ρ1 o with
    | some sr => exact .inl rfl
    | none => exact .inr rfl
theorem ki_any (ha : KO pm ct e sa) : KI pm ct tg e (anyS sa) := by
  refine ⟨fun X E xo t => (((ki_seq ha).go X E xo t).or ((ki_str ha).go X E xo t)).imp fun σ H Q ⟨Z, ρ, Fs, ok, h⟩ => ?_⟩
  rcases anyS_or (sa := sa) (ρ := ρ) with q | q
  · exact .inl ⟨Z, ρ, Fs, ok, by rw [← q]; exact h⟩
  · exact .inr ⟨Z, ρ, Fs, ok, by rw [← q]; exact h⟩
theorem ks_setC {x : Str} {i : Nat} {s : SE} {p : Pos} (he : KE pm ct e s) (hn : ct.N[i]? = some x) (hv : stoB ct x = true) (hc : ∀ env : Env, env.scope = ct.sc → swapsWith e (some (.Name x p)) pos.line env = pure false) (hw : ws.contains i = true) : KS pm ct ws (.Assign [.Name x p] e pos) (asS i s) := by
  refine ⟨fun X E xo c tk po => ?_⟩
  obtain ⟨h1, h2⟩ := sto_ok hv xo
  exact (ps_set (by rw [xo.hN]; exact xo.nd) (by rw [xo.hN]; exact hn) h1 (he.go X E xo tk) (hc X.env xo.sc) h2).imp fun D σ H h => as_read hw h
theorem ks_never {b : Stmt} : KS pm ct ws b (fun _ => .no) := ⟨fun X E xo c tk po => ps_never.imp fun D σ H ⟨Z, ρ, Fs, ok, h⟩ => h⟩
end
end Ev
namespace Ev
abbrev fzc (s : SE) : SD := fun ρ => fz (s ρ)
abbrev upc (s : SD) : SE := fun ρ => up (s ρ)
abbrev ooc (s : SD) : SO := fun ρ => oo (s ρ)
end Ev
set_option Elab.async false
set_option maxRecDepth 100000
set_option maxHeartbeats 4000000
/-! Ev23: what the head tells of the defs. -/
namespace Ev
open PySem PySem.Spec PyProof.Rows L2

structure DF (K : PySem.W.Frag) (mg : Str → Option Value) (x : Str) (st : Stmt) (f : Addr) (fd : FuncData) : Prop where
  ex : ∃ (oc : Value) (od : Option Addr) (kV doc pmv : Value) (an : Option Addr) (cdv cty : Value) (osl : Array (Option Value)), fd = PySem.W.fnOf x x (defArgs st) (defBody st) (defScope st) .none kV doc pmv an cdv cty ∧ K.lookup f = some ⟨oc, od, .func fd, osl⟩ ∧ PySem.W.codeIn K cdv x = true
  kp : PySem.W.keepIn K (.ref f) = true
  nm : mg x = some (.ref f)
section
variable {K : PySem.W.Frag} {h : Heap} {mg : Str → Option Value} {x : Str} {st : Stmt} {f : Addr} {fd : FuncData} {ps : List Str}
theorem DF.of {oc : Value} {od an : Option Addr} {kV doc pmv cdv cty : Value} {osl : Array (Option Value)} (X : K.In h) (G : h.Ns mainGlobals mg) (a : PySem.W.nsIn K mainGlobals x = some (some (.ref f)))
    (l : K.lookup f = some ⟨oc, od, .func (PySem.W.fnOf x x (defArgs st) (defBody st) (defScope st) .none kV doc pmv an cdv cty), osl⟩) (c : PySem.W.codeIn K cdv x = true) (k : PySem.W.keepIn K (.ref f) = true) :
    DF K mg x st f (PySem.W.fnOf x x (defArgs st) (defBody st) (defScope st) .none kV doc pmv an cdv cty) := ⟨⟨oc, od, kV, doc, pmv, an, cdv, cty, osl, rfl, l, c⟩, k, PySem.W.mg_of X G a⟩
theorem DF.binds (D : DF K mg x st f fd) (h : ∀ (kV doc pmv : Value) (an : Option Addr) (cdv cty : Value) (us : List Value), us.length = ps.length → bindArgs (PySem.W.fnOf x x (defArgs st) (defBody st) (defScope st) .none kV doc pmv an cdv cty) ⟨us, []⟩ = pure (ps.zip us)) : L2.Binds K fd ps [] := by
  obtain ⟨oc, od, kV, doc, pmv, an, cdv, cty, osl, rfl, lk, hcd⟩ := D.ex
  exact .all (h kV doc pmv an cdv cty)
theorem DF.bindsA (D : DF K mg x st f fd) (h : ∀ (kV doc pmv : Value) (an : Option Addr) (cdv cty : Value) (us : List Value), us.length = ps.length → bindArgs (PySem.W.fnOf x x (defArgs st) (defBody st) (defScope st) .none kV doc pmv an cdv cty) ⟨us, []⟩ = pure (ps.zip us)) (s : Shared) (us : List Value) (hl : us.length = ps.length) : BindsTo s fd ⟨us, []⟩ (ps.zip us) := by
  obtain ⟨oc, od, kV, doc, pmv, an, cdv, cty, osl, rfl, lk, hcd⟩ := D.ex
  exact .of_eq (h kV doc pmv an cdv cty us hl)
theorem DF.kbd (D : DF K mg x st f fd) (k : KwE) (hd : k.ds = []) (h : ∀ (kV doc pmv : Value) (an : Option Addr) (cdv cty : Value) (us ws : List Value), us.length = k.np → ws.length = k.ks.length → bindArgs (PySem.W.fnOf x x (defArgs st) (defBody st) (defScope st) .none kV doc pmv an cdv cty) ⟨us, k.ks.zip ws⟩ = pure (ps.zip (pick k.pi (us ++ ws)))) : KBd K fd ps k := by
  obtain ⟨oc, od, kV, doc, pmv, an, cdv, cty, osl, rfl, lk, hcd⟩ := D.ex
  refine ⟨[], [], by rw [hd]; rfl, .nil, fun s us ws _ l1 l2 => ?_⟩
  rw [List.append_nil]
  exact .of_eq (h kV doc pmv an cdv cty us ws l1 l2)
theorem DF.ok {pm : Pm} {P : Program} {w : World} {base : Heap} {N : List Str} {ws : List Nat} {s : SS} {lv : Nat} (D : DF K mg x st f fd) (W : Wd pm P w K mg base) (hlv : lv = pm.lv + 1) (S : FnScope N ps (defScope st))
    (hb : KSs pm ⟨N, defScope st, fun _ => true⟩ ws (defBody st) s) : FnG P w K mg base lv f fd ps (spOf pm.g ps.length (bodyR N.length ps.length ws s)) := by
  obtain ⟨oc, od, kV, doc, pmv, an, cdv, cty, osl, rfl, lk, hcd⟩ := D.ex
  exact def_of W hlv lk hcd S hb
end
end Ev
namespace Ev
open PySem PySem.Spec PyProof.Rows L2
theorem noList : ∀ {K : PySem.W.Frag}, K.all (fun q => !(q.2.cls == .type "list")) = true → ∀ (b : Addr) (o : Obj), K.lookup b = some o → o.cls ≠ .type "list"
  | [], _, _, _, e => nomatch e
  | (a, u) :: K, h, b, o, e => by
    rw [List.all_cons, Bool.and_eq_true] at h
    rw [List.lookup_cons] at e
    split at e
    · cases e
      intro z
      have h1 := h.1
      rw [show (a, u).2.cls = Value.type "list" from z] at h1
      simp at h1
    · exact noList h.2 b o e
end Ev
set_option Elab.async false
set_option maxRecDepth 100000
set_option maxHeartbeats 4000000
/-! Ev24: how readings are worked out. -/
namespace Ev
open PySem PySem.Spec PyProof.Rows L2

@[simp] theorem gt_0 (o : Option W) (r : Sl) : gt (o :: r) 0 = o := rfl
@[simp] theorem gt_s (o : Option W) (r : Sl) (n : Nat) : gt (o :: r) (n + 1) = gt r n := rfl
@[simp] theorem pt_0 (x o : Option W) (r : Sl) : pt (x :: r) 0 o = o :: r := rfl
@[simp] theorem pt_s (x o : Option W) (r : Sl) (n : Nat) : pt (x :: r) (n + 1) o = x :: pt r n o := rfl
@[simp] theorem gt_1 (a o : Option W) (r : Sl) : gt (a :: o :: r) 1 = o := rfl
@[simp] theorem gt_2 (a b o : Option W) (r : Sl) : gt (a :: b :: o :: r) 2 = o := rfl
@[simp] theorem gt_3 (a b c o : Option W) (r : Sl) : gt (a :: b :: c :: o :: r) 3 = o := rfl
@[simp] theorem gt_4 (a b c d o : Option W) (r : Sl) : gt (a :: b :: c :: d :: o :: r) 4 = o := rfl
@[simp] theorem gt_5 (a b c d e o : Option W) (r : Sl) : gt (a :: b :: c :: d :: e :: o :: r) 5 = o := rfl
@[simp] theorem gt_6 (a b c d e f o : Option W) (r : Sl) : gt (a :: b :: c :: d :: e :: f :: o :: r) 6 = o := rfl
@[simp] theorem gt_7 (a b c d e f g o : Option W) (r : Sl) : gt (a :: b :: c :: d :: e :: f :: g :: o :: r) 7 = o := rfl
@[simp] theorem gt_8 (a b c d e f g h o : Option W) (r : Sl) : gt (a :: b :: c :: d :: e :: f :: g :: h :: o :: r) 8 = o := rfl
@[simp] theorem gt_9 (a b c d e f g h i o : Option W) (r : Sl) : gt (a :: b :: c :: d :: e :: f :: g :: h :: i :: o :: r) 9 = o := rfl
@[simp] theorem pt_1 (a x o : Option W) (r : Sl) : pt (a :: x :: r) 1 o = a :: o :: r := rfl
@[simp] theorem pt_2 (a b x o : Option W) (r : Sl) : pt (a :: b :: x :: r) 2 o = a :: b :: o :: r := rfl
@[simp] theorem pt_3 (a b c x o : Option W) (r : Sl) : pt (a :: b :: c :: x :: r) 3 o = a :: b :: c :: o :: r := rfl
@[simp] theorem pt_4 (a b c d x o : Option W) (r : Sl) : pt (a :: b :: c :: d :: x :: r) 4 o = a :: b :: c :: d :: o :: r := rfl
@[simp] theorem pt_5 (a b c d e x o : Option W) (r : Sl) : pt (a :: b :: c :: d :: e :: x :: r) 5 o = a :: b :: c :: d :: e :: o :: r := rfl
@[simp] theorem pt_6 (a b c d e f x o : Option W) (r : Sl) : pt (a :: b :: c :: d :: e :: f :: x :: r) 6 o = a :: b :: c :: d :: e :: f :: o :: r := rfl
@[simp] theorem pt_7 (a b c d e f g x o : Option W) (r : Sl) : pt (a :: b :: c :: d :: e :: f :: g :: x :: r) 7 o = a :: b :: c :: d :: e :: f :: g :: o :: r := rfl
@[simp] theorem pt_8 (a b c d e f g h x o : Option W) (r : Sl) : pt (a :: b :: c :: d :: e :: f :: g :: h :: x :: r) 8 o = a :: b :: c :: d :: e :: f :: g :: h :: o :: r := rfl
@[simp] theorem pt_9 (a b c d e f g h i x o : Option W) (r : Sl) : pt (a :: b :: c :: d :: e :: f :: g :: h :: i :: x :: r) 9 o = a :: b :: c :: d :: e :: f :: g :: h :: i :: o :: r := rfl
@[simp] theorem co_d (x : PyData) : co (.d x) = some x := rfl
@[simp] theorem co_fl (x : List PyData) : co (.fl x) = some (.list x) := rfl
@[simp] theorem frz_d (x : PyData) : frz (.d x) = some x := rfl
@[simp] theorem frz_fl (x : List PyData) : frz (.fl x) = some (.list x) := rfl
/-! statements -/
def sq (r : SR) (b : SS) : SR := match r with
  | .nx ρ1 => b ρ1
  | r => r
@[simp] theorem sqS_eq (a b : SS) (ρ : Sl) : sqS a b ρ = sq (a ρ) b := rfl
@[simp] theorem sq_nx (b : SS) (ρ : Sl) : sq (.nx ρ) b = b ρ := rfl
@[simp] theorem sq_rt (b : SS) (w : W) (ρ : Sl) : sq (.rt w ρ) b = .rt w ρ := rfl
@[simp] theorem sq_bk (b : SS) (ρ : Sl) : sq (.bk ρ) b = .bk ρ := rfl
@[simp] theorem sq_ct (b : SS) (ρ : Sl) : sq (.ct ρ) b = .ct ρ := rfl
@[simp] theorem sq_ex (b : SS) (C : Nat) (x : PyData) (ρ : Sl) : sq (.ex C x ρ) b = .ex C x ρ := rfl
@[simp] theorem skp_eq (ρ : Sl) : skp ρ = .nx ρ := rfl
@[simp] theorem rtS_eq (s : SE) (ρ : Sl) : rtS s ρ = bs (s ρ) fun w ρ1 => .rt w ρ1 := rfl
@[simp] theorem asS_eq (i : Nat) (s : SE) (ρ : Sl) : asS i s ρ = bs (s ρ) fun w ρ1 => if i < ρ1.length then .nx (pt ρ1 i (some w)) else .no := rfl
@[simp] theorem ifS_eq (c : ST) (a b : SS) (ρ : Sl) : ifS c a b ρ = bs (c ρ) fun d ρ1 => if d = true then a ρ1 else b ρ1 := rfl
@[simp] theorem exS_eq (s : SE) (ρ : Sl) : exS s ρ = bs (s ρ) fun _ ρ1 => .nx ρ1 := rfl
@[simp] theorem raS_eq (C : Nat) (s : SD) (ρ : Sl) : raS C s ρ = bs (s ρ) fun x ρ1 => .ex C x ρ1 := rfl
def finR (n : Nat) (ws : List Nat) : SR → R W
  | .rt w ρ1 => .ok w ((hide ws ρ1).take n)
  | .nx ρ1 => .ok (.d .none) ((hide ws ρ1).take n)
  | .ex C x ρ1 => .ex C x ((hide ws ρ1).take n)
  | _ => .no
theorem bodyR_eq (L n : Nat) (ws : List Nat) (st : SS) (ρ : Sl) : bodyR L n ws st ρ = finR n ws (st (ρ ++ List.replicate (L - n) none)) := by
  unfold bodyR finR
  cases st (ρ ++ List.replicate (L - n) none) <;> rfl
@[simp] theorem fin_rt (n : Nat) (ws : List Nat) (w : W) (ρ : Sl) : finR n ws (.rt w ρ) = .ok w ((hide ws ρ).take n) := rfl
@[simp] theorem fin_nx (n : Nat) (ws : List Nat) (ρ : Sl) : finR n ws (.nx ρ) = .ok (.d .none) ((hide ws ρ).take n) := rfl
@[simp] theorem fin_ex (n : Nat) (ws : List Nat) (C : Nat) (x : PyData) (ρ : Sl) : finR n ws (.ex C x ρ) = .ex C x ((hide ws ρ).take n) := rfl
/-! expressions -/
@[simp] theorem eC_eq (x : PyData) (ρ : Sl) : eC x ρ = .ok x ρ := rfl
theorem oV_ok {i : Nat} {ρ : Sl} {w : W} (h : gt ρ i = some w) : oV i ρ = .ok (.s i) ρ := by
  unfold oV
  rw [h]
theorem eV_ok {i : Nat} {ρ : Sl} {w : W} {x : PyData} (h : gt ρ i = some w) (hx : frz w = some x) : eV i ρ = .ok x (pt ρ i (some (.d x))) := by
  unfold eV
  rw [h, Option.bind_some, hx]
theorem eM_ok {i : Nat} {ρ : Sl} {w : W} (h : gt ρ i = some w) : eM i ρ = .ok w (pt ρ i none) := by
  unfold eM
  rw [h]
def oVr (i : Nat) (ρ : Sl) : Option W → R O
  | some _ => .ok (.s i) ρ
  | none => .no
@[simp] theorem oV_eq (i : Nat) (ρ : Sl) : oV i ρ = oVr i ρ (gt ρ i) := by
  unfold oV oVr
  cases gt ρ i <;> rfl
@[simp] theorem oVr_some (i : Nat) (ρ : Sl) (w : W) : oVr i ρ (some w) = .ok (.s i) ρ := rfl
def eVr (i : Nat) (ρ : Sl) : Option PyData → R PyData
  | some x => .ok x (pt ρ i (some (.d x)))
  | none => .no
@[simp] theorem eV_eq (i : Nat) (ρ : Sl) : eV i ρ = eVr i ρ ((gt ρ i).bind frz) := by
  unfold eV eVr
  cases (gt ρ i).bind frz <;> rfl
@[simp] theorem eVr_some (i : Nat) (ρ : Sl) (x : PyData) : eVr i ρ (some x) = .ok x (pt ρ i (some (.d x))) := rfl
def eMr (i : Nat) (ρ : Sl) : Option W → R W
  | some w => .ok w (pt ρ i none)
  | none => .no
@[simp] theorem eM_eq (i : Nat) (ρ : Sl) : eM i ρ = eMr i ρ (gt ρ i) := by
  unfold eM eMr
  cases gt ρ i <;> rfl
@[simp] theorem eMr_some (i : Nat) (ρ : Sl) (w : W) : eMr i ρ (some w) = .ok w (pt ρ i none) := rfl
@[simp] theorem op1_eq (f : PyData → Option W) (a : SO) (ρ : Sl) : op1 f a ρ = (a ρ).bd fun o ρ1 => Ev.ret ((lk ρ1 o).bind f) ρ1 := rfl
@[simp] theorem op2_eq (f : PyData → PyData → Option W) (a b : SO) (ρ : Sl) : op2 f a b ρ = (a ρ).bd fun o ρ1 => (b ρ1).bd fun o2 ρ2 => Ev.ret ((lk ρ2 o).bind fun x => (lk ρ2 o2).bind fun y => f x y) ρ2 := rfl
@[simp] theorem opn_eq (f : List PyData → Option W) (as : SA) (ρ : Sl) : opn f as ρ = (as ρ).bd fun os ρ1 => Ev.ret ((lks ρ1 os).bind f) ρ1 := rfl
@[simp] theorem nilA_eq (ρ : Sl) : nilA ρ = .ok [] ρ := rfl
@[simp] theorem consA_eq (a : SO) (r : SA) (ρ : Sl) : consA a r ρ = (a ρ).bd fun o ρ1 => (r ρ1).bd fun os ρ2 => .ok (o :: os) ρ2 := rfl
def tstB : R W → R Bool
  | .ok (.d (.bool b)) ρ => .ok b ρ
  | .ok _ _ => .no
  | .ex C x ρ => .ex C x ρ
  | .no => .no
@[simp] theorem tst_eq (s : SE) (ρ : Sl) : tst s ρ = tstB (s ρ) := by
  unfold tst tstB
  cases s ρ <;> rfl
@[simp] theorem tstB_ok (b : Bool) (ρ : Sl) : tstB (.ok (.d (.bool b)) ρ) = .ok b ρ := rfl
def ifR (a b : SE) : Bool → Sl → R W
  | true => a
  | false => b
@[simp] theorem ifE_eq (c : ST) (a b : SE) (ρ : Sl) : ifE c a b ρ = (c ρ).bd fun k ρ1 => ifR a b k ρ1 := by
  unfold ifE
  cases c ρ with
  | ok k ρ1 => cases k <;> rfl
  | ex C x ρ1 => rfl
  | no => rfl
@[simp] theorem ifR_t (a b : SE) (ρ : Sl) : ifR a b true ρ = a ρ := rfl
@[simp] theorem ifR_f (a b : SE) (ρ : Sl) : ifR a b false ρ = b ρ := rfl
def andR (b : ST) : Bool → Sl → R Bool
  | true => b
  | false => fun ρ => .ok false ρ
def orR (b : ST) : Bool → Sl → R Bool
  | false => b
  | true => fun ρ => .ok true ρ
@[simp] theorem andT_eq (a b : ST) (ρ : Sl) : andT a b ρ = (a ρ).bd fun k ρ1 => andR b k ρ1 := by
  unfold andT
  cases a ρ with
  | ok k ρ1 => cases k <;> rfl
  | ex C x ρ1 => rfl
  | no => rfl
@[simp] theorem orT_eq (a b : ST) (ρ : Sl) : orT a b ρ = (a ρ).bd fun k ρ1 => orR b k ρ1 := by
  unfold orT
  cases a ρ with
  | ok k ρ1 => cases k <;> rfl
  | ex C x ρ1 => rfl
  | no => rfl
@[simp] theorem andR_t (b : ST) (ρ : Sl) : andR b true ρ = b ρ := rfl
@[simp] theorem andR_f (b : ST) (ρ : Sl) : andR b false ρ = .ok false ρ := rfl
@[simp] theorem orR_f (b : ST) (ρ : Sl) : orR b false ρ = b ρ := rfl
@[simp] theorem orR_t (b : ST) (ρ : Sl) : orR b true ρ = .ok true ρ := rfl
@[simp] theorem notT_eq (a : ST) (ρ : Sl) : notT a ρ = (a ρ).bd fun k ρ1 => .ok (!k) ρ1 := rfl
@[simp] theorem dsO_nil : dsO [] = some [] := rfl
@[simp] theorem dsO_cons (x : PyData) (os : List O) : dsO (.v x :: os) = (dsO os).map (x :: ·) := rfl
def tupR (ρ : Sl) : Option (List PyData) → R PyData
  | some xs => if xs.length ≤ 16777216 then .ok (.tuple xs) ρ else .no
  | none => .no
def lstR (ρ : Sl) : Option (List PyData) → R W
  | some xs => if xs.length ≤ 16777216 then .ok (.fl xs) ρ else .no
  | none => .no
@[simp] theorem tupE_eq (as : SA) (ρ : Sl) : tupE as ρ = (as ρ).bd fun os ρ1 => tupR ρ1 (dsO os) := by
  unfold tupE
  cases as ρ with
  | ok os ρ1 => simp only [bd_ok]; unfold tupR; cases dsO os <;> rfl
  | ex C x ρ1 => rfl
  | no => rfl
@[simp] theorem lstE_eq (as : SA) (ρ : Sl) : lstE as ρ = (as ρ).bd fun os ρ1 => lstR ρ1 (dsO os) := by
  unfold lstE
  cases as ρ with
  | ok os ρ1 => simp only [bd_ok]; unfold lstR; cases dsO os <;> rfl
  | ex C x ρ1 => rfl
  | no => rfl
@[simp] theorem tupR_some (ρ : Sl) (xs : List PyData) : tupR ρ (some xs) = if xs.length ≤ 16777216 then .ok (.tuple xs) ρ else .no := rfl
@[simp] theorem lstR_some (ρ : Sl) (xs : List PyData) : lstR ρ (some xs) = if xs.length ≤ 16777216 then .ok (.fl xs) ρ else .no := rfl
@[simp] theorem callE_eq (n : Nat) (Φ : SE) (as : SA) (ρ : Sl) : callE n Φ as ρ = (as ρ).bd fun os ρ1 => callO n Φ os ρ1 := rfl
def callR (os : List O) (ρ1 : Sl) : R W → R W
  | .ok w ρa => .ok w (bk os ρa ρ1)
  | .ex C x ρa => .ex C x (bk os ρa ρ1)
  | .no => .no
theorem callO_eq (n : Nat) (Φ : SE) (os : List O) (ρ1 : Sl) (h : os.length = n) (hn : (refs os).Nodup) : callO n Φ os ρ1 = callR os ρ1 (Φ (os.map (ar ρ1))) := by
  unfold callO callR
  rw [if_pos ⟨h, hn⟩]
  all_goals (cases Φ (os.map (ar ρ1)) <;> rfl)
@[simp] theorem callR_ok (os : List O) (ρ1 ρa : Sl) (w : W) : callR os ρ1 (.ok w ρa) = .ok w (bk os ρa ρ1) := rfl
@[simp] theorem callR_ex (os : List O) (ρ1 ρa : Sl) (C : Nat) (x : PyData) : callR os ρ1 (.ex C x ρa) = .ex C x (bk os ρa ρ1) := rfl
@[simp] theorem ar_v (ρ : Sl) (x : PyData) : ar ρ (.v x) = some (.d x) := rfl
@[simp] theorem ar_s (ρ : Sl) (i : Nat) : ar ρ (.s i) = gt ρ i := rfl
@[simp] theorem refs_nil : refs [] = [] := rfl
@[simp] theorem refs_v (x : PyData) (os : List O) : refs (.v x :: os) = refs os := rfl
@[simp] theorem refs_s (i : Nat) (os : List O) : refs (.s i :: os) = i :: refs os := rfl
@[simp] theorem bk_nil (ρa ρ : Sl) : bk [] ρa ρ = ρ := by unfold bk; rfl
@[simp] theorem bk_v (x : PyData) (os : List O) (a : Option W) (ρa ρ : Sl) : bk (.v x :: os) (a :: ρa) ρ = bk os ρa ρ := by rw [bk]
@[simp] theorem bk_s (i : Nat) (os : List O) (a : Option W) (ρa ρ : Sl) : bk (.s i :: os) (a :: ρa) ρ = pt (bk os ρa ρ) i a := by rw [bk]
@[simp] theorem bk_e (os : List O) (ρ : Sl) : bk os [] ρ = ρ := by cases os with
  | nil => unfold bk; rfl
  | cons o os => cases o <;> (unfold bk; rfl)
/-! slices, methods -/
@[simp] theorem noP_eq (ρ : Sl) : noP ρ = .ok none ρ := rfl
def soB (ρ1 : Sl) : PyData → R (Option Int)
  | .int i => .ok (some i) ρ1
  | _ => .no
@[simp] theorem soP_eq (s : SD) (ρ : Sl) : soP s ρ = (s ρ).bd fun x ρ1 => soB ρ1 x := rfl
@[simp] theorem soB_int (ρ1 : Sl) (i : Int) : soB ρ1 (.int i) = .ok (some i) ρ1 := rfl
def smR (f : Str → PyData → Option W) (b : SO) (ρ1 : Sl) : Option PyData → R W
  | some (.str z) => (b ρ1).bd fun o2 ρ2 => Ev.ret ((lk ρ2 o2).bind (f z)) ρ2
  | _ => .no
@[simp] theorem smE_eq (f : Str → PyData → Option W) (a b : SO) (ρ : Sl) : smE f a b ρ = (a ρ).bd fun o ρ1 => smR f b ρ1 (lk ρ1 o) := rfl
@[simp] theorem smR_str (f : Str → PyData → Option W) (b : SO) (ρ1 : Sl) (z : Str) : smR f b ρ1 (some (.str z)) = (b ρ1).bd fun o2 ρ2 => Ev.ret ((lk ρ2 o2).bind (f z)) ρ2 := rfl
@[simp] theorem slE_eq (a : SO) (lo hi : SP') (ρ : Sl) : slE a lo hi ρ = (a ρ).bd fun o ρ1 => (lo ρ1).bd fun l ρ2 => (hi ρ2).bd fun h ρ3 => Ev.ret ((lk ρ3 o).bind (slD l h)) ρ3 := rfl
/-! values -/
@[simp] theorem binA_i (a b : Int) : binA (.int a) (.int b) = some (.d (.int (a + b))) := rfl
@[simp] theorem binS_i (a b : Int) : binS (.int a) (.int b) = some (.d (.int (a - b))) := rfl
@[simp] theorem cmpE_i (a b : Int) : cmpE (.int a) (.int b) = some (.d (.bool (a == b))) := rfl
@[simp] theorem cmpE_s (a b : Str) : cmpE (.str a) (.str b) = some (.d (.bool (a == b))) := rfl
@[simp] theorem cmpE_b (a b : Bool) : cmpE (.bool a) (.bool b) = some (.d (.bool (a == b))) := rfl
@[simp] theorem cmpN_i (a b : Int) : cmpN (.int a) (.int b) = some (.d (.bool (!(a == b)))) := rfl
@[simp] theorem cmpN_s (a b : Str) : cmpN (.str a) (.str b) = some (.d (.bool (!(a == b)))) := rfl
@[simp] theorem cmpN_b (a b : Bool) : cmpN (.bool a) (.bool b) = some (.d (.bool (!(a == b)))) := rfl
@[simp] theorem cmpI_i (p : Int → Int → Bool) (a b : Int) : cmpI p (.int a) (.int b) = some (.d (.bool (p a b))) := rfl
@[simp] theorem absD_i (a : Int) : absD [.int a] = some (.d (.int (if a < 0 then -a else a))) := rfl
@[simp] theorem maxD_i (a b : Int) : maxD [.int a, .int b] = some (.d (.int (if b > a then b else a))) := rfl
@[simp] theorem intD_i (a : Int) : intD [.int a] = some (.d (.int a)) := rfl
@[simp] theorem intD_b (a : Bool) : intD [.bool a] = some (.d (.int (if a then 1 else 0))) := rfl
@[simp] theorem negD_i (a : Int) : negD (.int a) = some (.d (.int (-a))) := rfl
@[simp] theorem lenD_l (xs : List PyData) : lenD [.list xs] = some (.d (.int xs.length)) := rfl
@[simp] theorem lenD_t (xs : List PyData) : lenD [.tuple xs] = some (.d (.int xs.length)) := rfl
theorem lenD_s {z : Str} (h : z.length ≤ 16777216) : lenD [.str z] = some (.d (.int z.length)) := if_pos h
theorem binA_s {a b : Str} (h : a.length + b.length ≤ 16777216) : binA (.str a) (.str b) = some (.d (.str (a ++ b))) := if_pos h
theorem binA_l {a b : List PyData} (h : a.length + b.length ≤ 16777216) : binA (.list a) (.list b) = some (.fl (a ++ b)) := if_pos h
theorem strD_i {a : Int} (h : a.natAbs.log2 < 1920) : strD [.int a] = some (.d (.str (toString a))) := if_pos h
theorem ixD_l {xs : List PyData} {i : Int} {x : PyData} (h : atI xs i = some x) : ixD (.list xs) (.int i) = some (.d x) := by
  show (atI xs i).map W.d = _
  rw [h]
  rfl
theorem ixD_t {xs : List PyData} {i : Int} {x : PyData} (h : atI xs i = some x) : ixD (.tuple xs) (.int i) = some (.d x) := by
  show (atI xs i).map W.d = _
  rw [h]
  rfl
theorem ixD_s {z : Str} {i : Int} {c : Nat} (hz : z.length ≤ 16777216) (h : atI z.cps.toList i = some c) : ixD (.str z) (.int i) = some (.d (.str ⟨#[c]⟩)) := by
  show (if z.length ≤ 16777216 then (atI z.cps.toList i).map fun c => W.d (.str ⟨#[c]⟩) else none) = _
  rw [if_pos hz, h]
  rfl
theorem atI_nat {α : Type} {xs : List α} {i : Nat} {x : α} (h : xs[i]? = some x) : atI xs (i : Int) = some x := by
  have hi : i < xs.length := by
    by_cases hi : i < xs.length
    · exact hi
    · rw [List.getElem?_eq_none (by omega)] at h
      cases h
  unfold atI ixN
  rw [if_pos (by omega), if_pos (by omega)]
  exact h
@[simp] theorem ixD_t0 (x : PyData) (xs : List PyData) : ixD (.tuple (x :: xs)) (.int 0) = some (.d x) := ixD_t (atI_nat (i := 0) rfl)
@[simp] theorem ixD_t1 (x y : PyData) (xs : List PyData) : ixD (.tuple (x :: y :: xs)) (.int 1) = some (.d y) := ixD_t (atI_nat (i := 1) rfl)
theorem mulM {a b : Int} (h : mulB a b = true) : binM (.int a) (.int b) = some (.d (.int (a * b))) := if_pos h
theorem divQ {a b : Int} (h : b ≠ 0) (h2 : Builtin.divisionGoesByPylong a b = false) : binQ (.int a) (.int b) = some (.d (.int (a.fdiv b))) := if_pos ⟨h, h2⟩
theorem modR {a b : Int} (h : b ≠ 0) : binR (.int a) (.int b) = some (.d (.int (a.fmod b))) := if_pos h
theorem powP {a n : Int} (h : 0 ≤ n) (h2 : (Builtin.Int.intBits a : Int) * n ≤ 2 ^ 27) : binP (.int a) (.int n) = some (.d (.int (a ^ n.toNat))) := if_pos ⟨h, h2⟩
@[simp] theorem fzc_eq (s : SE) (ρ : Sl) : fzc s ρ = fz (s ρ) := rfl
@[simp] theorem upc_eq (s : SD) (ρ : Sl) : upc s ρ = up (s ρ) := rfl
@[simp] theorem ooc_eq (s : SD) (ρ : Sl) : ooc s ρ = oo (s ρ) := rfl
end Ev
namespace Ev
open PySem PySem.Spec PyProof.Rows L2
@[simp] theorem hide_nil (ρ : Sl) : hide [] ρ = ρ := rfl
@[simp] theorem hide_cons (j : Nat) (js : List Nat) (ρ : Sl) : hide (j :: js) ρ = pt (hide js ρ) j none := rfl
@[simp] theorem back_nil (ρ0 ρ : Sl) : back [] ρ0 ρ = ρ := rfl
@[simp] theorem back_cons (j : Nat) (js : List Nat) (ρ0 ρ : Sl) : back (j :: js) ρ0 ρ = pt (back js ρ0 ρ) j (gt ρ0 j) := rfl
@[simp] theorem bk_v1 (x : PyData) (ρa ρ : Sl) : bk [.v x] ρa ρ = ρ := by cases ρa <;> simp
@[simp] theorem bk_v2 (x y : PyData) (ρa ρ : Sl) : bk [.v x, .v y] ρa ρ = ρ := by
  cases ρa with
  | nil => simp
  | cons a r => rw [bk_v, bk_v1]
@[simp] theorem nmG_eq (i : Nat) (x : PyData) (ρ : Sl) : nmG i x ρ = if i < ρ.length then some (pt ρ i (some (.d x))) else none := rfl
@[simp] theorem yesT_eq (ρ : Sl) : yesT ρ = .ok true ρ := rfl
theorem compGo_map {js : List Nat} {tg : ST'} {cd : ST} {el : SD} (ρ : Sl) (g : PyData → PyData) : ∀ {xs : List PyData}, (∀ x ∈ xs, ∃ ρ2 ρ3 ρ4, tg x ρ = some ρ2 ∧ cd ρ2 = .ok true ρ3 ∧ el ρ3 = .ok (g x) ρ4 ∧ hide js ρ4 = ρ) → compGo js tg cd el xs ρ = some (xs.map g, ρ)
  | [], _ => rfl
  | x :: xs, h => by
    obtain ⟨ρ2, ρ3, ρ4, h1, h2, h3, h4⟩ := h x List.mem_cons_self
    unfold compGo
    rw [h1]
    simp only [h2, h3, h4]
    rw [compGo_map ρ g fun y hy => h y (List.mem_cons_of_mem _ hy)]
    rfl
theorem compGo_filter {js : List Nat} {tg : ST'} {cd : ST} {el : SD} (ρ : Sl) (g : PyData → PyData) (p : PyData → Bool) : ∀ {xs : List PyData}, (∀ x ∈ xs, ∃ ρ2 ρ3 ρ4, tg x ρ = some ρ2 ∧ cd ρ2 = .ok (p x) ρ3 ∧ (p x = true → el ρ3 = .ok (g x) ρ4 ∧ hide js ρ4 = ρ) ∧ (p x = false → hide js ρ3 = ρ)) → compGo js tg cd el xs ρ = some ((xs.filter p).map g, ρ)
  | [], _ => rfl
  | x :: xs, h => by
    obtain ⟨ρ2, ρ3, ρ4, h1, h2, h3, h4⟩ := h x List.mem_cons_self
    have ih := compGo_filter (js := js) (tg := tg) (cd := cd) (el := el) ρ g p (xs := xs) fun y hy => h y (List.mem_cons_of_mem _ hy)
    unfold compGo
    rw [h1]
    cases e : p x with
    | true =>
      rw [e] at h2
      simp only [h2, (h3 e).1, (h3 e).2, ih, List.filter_cons, e, if_true]
      rfl
    | false =>
      rw [e] at h2
      simp only [h2, h4 e, ih, List.filter_cons, e, Bool.false_eq_true, if_false]
def compK (own : List Nat) (tg : ST') (cd : ST) (el : SD) : R Sr → R W
  | .ok sr ρ1 => compR own tg cd el sr ρ1
  | .ex C x ρ1 => .ex C x ρ1
  | .no => .no
@[simp] theorem compE_eq (own : List Nat) (tg : ST') (cd : ST) (el : SD) (src : SI) (ρ : Sl) : compE own tg cd el src ρ = compK own tg cd el (src ρ) := by
  unfold compE compK
  cases src ρ <;> rfl
@[simp] theorem compK_ok (own : List Nat) (tg : ST') (cd : ST) (el : SD) (sr : Sr) (ρ : Sl) : compK own tg cd el (.ok sr ρ) = compR own tg cd el sr ρ := rfl
theorem compR_ok {own : List Nat} {tg : ST'} {cd : ST} {el : SD} {xs : List PyData} {ln : List Nat} {ρ1 ρ2 : Sl} {ys : List PyData} (h : xs.length ≤ 16777216) (e : compGo (own ++ ln) tg cd el xs (hide (own ++ ln) ρ1) = some (ys, ρ2)) :
    compR own tg cd el (xs, ln) ρ1 = .ok (.fl ys) (back (own ++ ln) ρ1 ρ2) := by
  unfold compR
  rw [if_pos h]
  simp only [e]
def anyR (ρ1 : Sl) (o : O) : Option Sr → R Sr
  | some sr => .ok sr ρ1
  | none => match lk ρ1 o with
    | some (.str z) => .ok (z.cps.toList.map fun c => .str ⟨#[c]⟩, []) ρ1
    | _ => .no
@[simp] theorem anyS_eq (a : SO) (ρ : Sl) : anyS a ρ = (a ρ).bd fun o ρ1 => anyR ρ1 o (srO ρ1 o) := by
  unfold anyS
  cases a ρ with
  | ok o ρ1 => simp only [bd_ok]; unfold anyR; cases srO ρ1 o <;> rfl
  | ex C x ρ1 => rfl
  | no => rfl
@[simp] theorem anyR_some (ρ1 : Sl) (o : O) (sr : Sr) : anyR ρ1 o (some sr) = .ok sr ρ1 := rfl
theorem anyR_str {ρ1 : Sl} {o : O} {z : Str} (h : lk ρ1 o = some (.str z)) : anyR ρ1 o none = .ok (z.cps.toList.map fun c => .str ⟨#[c]⟩, []) ρ1 := by
  unfold anyR
  simp only [h]
@[simp] theorem srO_v (ρ : Sl) (xs : List PyData) : srO ρ (.v (.list xs)) = some (xs, []) := rfl
@[simp] theorem srO_vs (ρ : Sl) (z : Str) : srO ρ (.v (.str z)) = none := rfl
def srR (i : Nat) : Option W → Option Sr
  | some (.fl xs) => some (xs, [i])
  | some (.d (.list xs)) => some (xs, [])
  | _ => none
@[simp] theorem srO_s (ρ : Sl) (i : Nat) : srO ρ (.s i) = srR i (gt ρ i) := by
  show (match gt ρ i with | some (.fl xs) => some (xs, [i]) | some (.d (.list xs)) => some (xs, []) | _ => none) = srR i (gt ρ i)
  cases gt ρ i with
  | none => rfl
  | some w => cases w with
    | d x => cases x <;> rfl
    | _ => rfl
@[simp] theorem srR_fl (i : Nat) (xs : List PyData) : srR i (some (.fl xs)) = some (xs, [i]) := rfl
@[simp] theorem srR_d (i : Nat) (xs : List PyData) : srR i (some (.d (.list xs))) = some (xs, []) := rfl
@[simp] theorem srR_str (i : Nat) (z : Str) : srR i (some (.d (.str z))) = none := rfl
@[simp] theorem cmpIn_s (c : Nat) (z : Str) : cmpIn false (.str ⟨#[c]⟩) (.str z) = some (.d (.bool (decide (c ∈ z.cps.toList)))) := rfl
@[simp] theorem cmpNin_s (c : Nat) (z : Str) : cmpIn true (.str ⟨#[c]⟩) (.str z) = some (.d (.bool (!decide (c ∈ z.cps.toList)))) := rfl
theorem boolsD_map {α : Type} (f : α → Bool) : ∀ xs : List α, boolsD (xs.map fun x => PyData.bool (f x)) = some (xs.map f)
  | [] => rfl
  | x :: xs => by
    show (boolsD (xs.map fun x => PyData.bool (f x))).map (f x :: ·) = _
    rw [boolsD_map f xs]
    rfl
def cmR (f' : PyData → PyData → Option W) (c : SO) (o2 : O) (ρ2 : Sl) : Option W → R W
  | some (.d (.bool true)) => (c ρ2).bd fun o3 ρ3 => Ev.ret ((lk ρ3 o2).bind fun y => (lk ρ3 o3).bind fun z => f' y z) ρ3
  | some (.d (.bool false)) => .ok (.d (.bool false)) ρ2
  | _ => .no
@[simp] theorem cm2_eq (f f' : PyData → PyData → Option W) (a b c : SO) (ρ : Sl) : cm2 f f' a b c ρ = (a ρ).bd fun o ρ1 => (b ρ1).bd fun o2 ρ2 => cmR f' c o2 ρ2 ((lk ρ2 o).bind fun x => (lk ρ2 o2).bind fun y => f x y) := rfl
theorem cmR_b (f' : PyData → PyData → Option W) (c : SO) (o2 : O) (ρ2 : Sl) (b : Bool) : cmR f' c o2 ρ2 (some (.d (.bool b))) = if b = true then (c ρ2).bd fun o3 ρ3 => Ev.ret ((lk ρ3 o2).bind fun y => (lk ρ3 o3).bind fun z => f' y z) ρ3 else .ok (.d (.bool false)) ρ2 := by
  cases b <;> rfl
@[simp] theorem cmR_t (f' : PyData → PyData → Option W) (c : SO) (o2 : O) (ρ2 : Sl) : cmR f' c o2 ρ2 (some (.d (.bool true))) = (c ρ2).bd fun o3 ρ3 => Ev.ret ((lk ρ3 o2).bind fun y => (lk ρ3 o3).bind fun z => f' y z) ρ3 := rfl
@[simp] theorem cmR_f (f' : PyData → PyData → Option W) (c : SO) (o2 : O) (ρ2 : Sl) : cmR f' c o2 ρ2 (some (.d (.bool false))) = .ok (.d (.bool false)) ρ2 := rfl
def andV (b : SE) (ρ1 : Sl) : PyData → R W
  | .bool true => b ρ1
  | .bool false => .ok (.d (.bool false)) ρ1
  | _ => .no
def orV (b : SE) (ρ1 : Sl) : PyData → R W
  | .bool true => .ok (.d (.bool true)) ρ1
  | .bool false => b ρ1
  | _ => .no
def notV (ρ1 : Sl) : PyData → R W
  | .bool b => .ok (.d (.bool !b)) ρ1
  | _ => .no
@[simp] theorem andE_eq (a : SD) (b : SE) (ρ : Sl) : andE a b ρ = (a ρ).bd fun x ρ1 => andV b ρ1 x := rfl
@[simp] theorem orE_eq (a : SD) (b : SE) (ρ : Sl) : orE a b ρ = (a ρ).bd fun x ρ1 => orV b ρ1 x := rfl
@[simp] theorem notE_eq (a : SD) (ρ : Sl) : notE a ρ = (a ρ).bd fun x ρ1 => notV ρ1 x := rfl
@[simp] theorem andV_t (b : SE) (ρ1 : Sl) : andV b ρ1 (.bool true) = b ρ1 := rfl
@[simp] theorem andV_f (b : SE) (ρ1 : Sl) : andV b ρ1 (.bool false) = .ok (.d (.bool false)) ρ1 := rfl
@[simp] theorem orV_f (b : SE) (ρ1 : Sl) : orV b ρ1 (.bool false) = b ρ1 := rfl
@[simp] theorem orV_t (b : SE) (ρ1 : Sl) : orV b ρ1 (.bool true) = .ok (.d (.bool true)) ρ1 := rfl
@[simp] theorem notV_b (ρ1 : Sl) (b : Bool) : notV ρ1 (.bool b) = .ok (.d (.bool !b)) ρ1 := rfl
theorem allD_map {α : Type} (f : α → Bool) (xs : List α) : allD [.list (xs.map fun x => PyData.bool (f x))] = some (.d (.bool (xs.all f))) := by
  show (boolsD (xs.map fun x => PyData.bool (f x))).bind (fun bs => imm (.bool (bs.all id))) = _
  rw [boolsD_map f xs, Option.bind_some]
  show some (W.d (.bool ((xs.map f).all id))) = _
  rw [List.all_map]
  rfl
theorem whS_f {c : ST} {b : SS} {ρ ρ1 : Sl} (h : c ρ = .ok false ρ1) : whS c b ρ = .nx ρ1 := by
  refine whS_eq (n := 1) ?_ (fun z => nomatch z)
  unfold whN
  rw [h]
  rfl
theorem whS_t {c : ST} {b : SS} {ρ ρ1 ρ2 : Sl} {r : SR} (h : c ρ = .ok true ρ1) (h2 : b ρ1 = .nx ρ2) (h3 : whS c b ρ2 = r) (hr : r ≠ .no) : whS c b ρ = r := by
  unfold whS at h3
  split at h3
  · rename_i he
    refine whS_eq (n := Classical.choose he + 1) ?_ hr
    unfold whN
    rw [h]
    simp only [bs_ok, if_true, h2]
    exact h3
  · exact absurd h3.symm hr
def parR (is : List Nat) (ρ1 : Sl) : Option (List PyData) → SR
  | some xs => match asTs is xs ρ1 with
    | some ρ2 => .nx ρ2
    | none => .no
  | none => .no
@[simp] theorem parS_eq (is : List Nat) (as : SA) (ρ : Sl) : parS is as ρ = bs (as ρ) fun os ρ1 => parR is ρ1 (dsO os) := by
  unfold parS
  cases as ρ with
  | ok os ρ1 =>
    simp only [bs_ok]
    unfold parR
    cases dsO os <;> rfl
  | ex C x ρ1 => rfl
  | no => rfl
@[simp] theorem parR_2 (i j : Nat) (ρ : Sl) (x y : PyData) : parR [i, j] ρ (some [x, y]) = if i < ρ.length then (if j < (pt ρ i (some (.d x))).length then .nx (pt (pt ρ i (some (.d x))) j (some (.d y))) else .no) else .no := by
  by_cases h : i < ρ.length
  · by_cases h2 : j < (pt ρ i (some (.d x))).length
    · simp only [parR, asTs, if_pos h, if_pos h2]
    · simp only [parR, asTs, if_pos h, if_neg h2]
  · simp only [parR, asTs, if_neg h]
theorem pt_len' (ρ : Sl) (i : Nat) (o : Option W) : (pt ρ i o).length = ρ.length := pt_len ρ i o
@[simp] theorem callO_v (Φ : SE) (ρ : Sl) (x : PyData) : callO 1 Φ [.v x] ρ = callR [.v x] ρ (Φ [some (.d x)]) := callO_eq 1 Φ _ ρ rfl (by simp)
@[simp] theorem callO_vv (Φ : SE) (ρ : Sl) (x y : PyData) : callO 2 Φ [.v x, .v y] ρ = callR [.v x, .v y] ρ (Φ [some (.d x), some (.d y)]) := callO_eq 2 Φ _ ρ rfl (by simp)
@[simp] theorem callO_vvv (Φ : SE) (ρ : Sl) (x y z : PyData) : callO 3 Φ [.v x, .v y, .v z] ρ = callR [.v x, .v y, .v z] ρ (Φ [some (.d x), some (.d y), some (.d z)]) := callO_eq 3 Φ _ ρ rfl (by simp)
@[simp] theorem callO_s (Φ : SE) (ρ : Sl) (i : Nat) : callO 1 Φ [.s i] ρ = callR [.s i] ρ (Φ [gt ρ i]) := callO_eq 1 Φ _ ρ rfl (by simp)
@[simp] theorem callO_sv (Φ : SE) (ρ : Sl) (i : Nat) (x : PyData) : callO 2 Φ [.s i, .v x] ρ = callR [.s i, .v x] ρ (Φ [gt ρ i, some (.d x)]) := callO_eq 2 Φ _ ρ rfl (by simp)
@[simp] theorem callO_svv (Φ : SE) (ρ : Sl) (i : Nat) (x y : PyData) : callO 3 Φ [.s i, .v x, .v y] ρ = callR [.s i, .v x, .v y] ρ (Φ [gt ρ i, some (.d x), some (.d y)]) := callO_eq 3 Φ _ ρ rfl (by simp)
theorem bits_le {b : Int} {k : Nat} (h : b.natAbs < 2 ^ k) : Builtin.Int.intBits b ≤ k := by
  unfold Builtin.Int.intBits
  split
  · exact Nat.zero_le _
  · rename_i hb
    have : b.natAbs ≠ 0 := by
      intro z
      exact hb (by simpa using z)
    have := (Nat.log2_lt this).mpr h
    omega
theorem mulB_r {a b : Int} (h : b.natAbs < 2 ^ 64) : mulB a b = true := by
  have h1 := bits_le h
  unfold mulB
  have : decide (Builtin.Int.intBits b > shortFactorBits) = false := decide_eq_false (by unfold shortFactorBits; omega)
  rw [this, Bool.and_false, Bool.false_and]
  rfl
theorem mulB_l {a b : Int} (h : a.natAbs < 2 ^ 64) : mulB a b = true := by
  have h1 := bits_le h
  unfold mulB
  have : decide (Builtin.Int.intBits a > shortFactorBits) = false := decide_eq_false (by unfold shortFactorBits; omega)
  rw [this, Bool.false_and, Bool.false_and]
  rfl
theorem log_small {a : Int} (h : a.natAbs < 10 ^ 10) : a.natAbs.log2 < 1920 := by
  by_cases z : a.natAbs = 0
  · rw [z]
    decide
  · have : a.natAbs.log2 < 40 := (Nat.log2_lt z).mpr (Nat.lt_of_lt_of_le h (by decide))
    omega
theorem len_small {a : Int} (h : a.natAbs < 10 ^ 10) : (Str.ofString (toString a)).length ≤ 11 := by
  rw [PySem.ofString_length]
  exact int_text_length_le10 (by decide) h
theorem cmpE_l {xs ys : List PyData} (h : SeqAt.shaped (.list xs) = true) (h' : SeqAt.shaped (.list ys) = true) : cmpE (.list xs) (.list ys) = some (.d (.bool (PyData.eqvAll xs ys))) := by
  show (if SeqAt.shaped (.list xs) && SeqAt.shaped (.list ys) then bo (PyData.eqv (.list xs) (.list ys)) else none) = _
  rw [h, h']
  simp only [Bool.and_self, if_true, PyData.eqv]
  rfl
theorem cmpN_l {xs ys : List PyData} (h : SeqAt.shaped (.list xs) = true) (h' : SeqAt.shaped (.list ys) = true) : cmpN (.list xs) (.list ys) = some (.d (.bool (!PyData.eqvAll xs ys))) := by
  show (if SeqAt.shaped (.list xs) && SeqAt.shaped (.list ys) then bo (!PyData.eqv (.list xs) (.list ys)) else none) = _
  rw [h, h']
  simp only [Bool.and_self, if_true, PyData.eqv]
  rfl
theorem lay_all : ∀ {xs : List PyData}, (∀ x ∈ xs, x.canLay0 = true) → PyData.canLayAll0 xs = true
  | [], _ => by simp [PyData.canLayAll0]
  | x :: xs, h => by
    simp only [PyData.canLayAll0, Bool.and_eq_true]
    exact ⟨h x List.mem_cons_self, lay_all fun y hy => h y (List.mem_cons_of_mem _ hy)⟩
theorem dep_all {n : Nat} : ∀ {xs : List PyData}, (∀ x ∈ xs, x.depth ≤ n) → PyData.depthAll xs ≤ n
  | [], _ => by simp [PyData.depthAll]
  | x :: xs, h => by
    have h1 := h x List.mem_cons_self
    have h2 := dep_all (n := n) (xs := xs) fun y hy => h y (List.mem_cons_of_mem _ hy)
    simp only [PyData.depthAll]
    omega
theorem shaped_list {xs : List PyData} {n : Nat} (hn : n < 60) (h : ∀ x ∈ xs, x.canLay0 = true ∧ x.depth ≤ n) : SeqAt.shaped (.list xs) = true := by
  unfold SeqAt.shaped
  have h2 := dep_all fun x hx => (h x hx).2
  have e1 : (PyData.list xs).canLay0 = true := by
    simp only [PyData.canLay0]
    exact lay_all fun x hx => (h x hx).1
  have e2 : (PyData.list xs).depth ≤ 64 := by
    simp only [PyData.depth]
    omega
  rw [e1, Bool.true_and]
  exact decide_eq_true e2
theorem flat_str {z : Str} (h : PyData.strOk z = true) : (PyData.str z).canLay0 = true ∧ (PyData.str z).depth ≤ 2 := by
  simp [PyData.canLay0, PyData.depth, h]
theorem ok_sign {z : Str} {c : Nat} (h : PyData.strOk z = true) (hc : c ∈ z.cps.toList) : PyData.strOk ⟨#[c]⟩ = true := by
  unfold PyData.strOk at *
  rw [← Array.all_toList, List.all_eq_true] at h
  have := h c hc
  simpa using this
theorem flat_int (z : Int) : (PyData.int z).canLay0 = true ∧ (PyData.int z).depth ≤ 2 := by
  simp [PyData.canLay0, PyData.depth]
theorem flat_non : (PyData.none).canLay0 = true ∧ (PyData.none).depth ≤ 2 := by
  simp [PyData.canLay0, PyData.depth]
theorem eqv_nil (xs : List PyData) : PyData.eqvAll xs [] = xs.isEmpty := by
  cases xs <;> simp [PyData.eqvAll]
/-! texts: lengths, signs -/
theorem slD_s {z : Str} {lo hi : Option Int} (h : z.length ≤ 16777216) : slD lo hi (.str z) = some (.d (.str (cutS z lo hi))) := if_pos h
@[simp] theorem slD_l (xs : List PyData) (lo hi : Option Int) : slD lo hi (.list xs) = some (.fl (cutD xs lo hi)) := rfl
theorem splitD_s {z y : Str} (hy : (y.length == 0) = false) (h : z.length + 2 ≤ 16777216) : splitD z (.str y) = some (.fl ((Txt.split z y).map .str)) := if_pos ⟨hy, h⟩
theorem ok_sub {z w : Str} (h : PyData.strOk z = true) (hs : ∀ c ∈ w.cps.toList, c ∈ z.cps.toList) : PyData.strOk w = true := by
  unfold PyData.strOk at *
  rw [← Array.all_toList, List.all_eq_true] at h ⊢
  exact fun c hc => h c (hs c hc)
theorem ok_cut {z : Str} {lo hi : Option Int} (h : PyData.strOk z = true) : PyData.strOk (cutS z lo hi) = true := by
  refine ok_sub h fun c hc => ?_
  unfold cutS at hc
  have hc : c ∈ List.take (HT.sIx z.length z.length hi - HT.sIx z.length 0 lo) (List.drop (HT.sIx z.length 0 lo) z.cps.toList) := by simpa using hc
  exact List.mem_of_mem_drop (List.mem_of_mem_take hc)
theorem ok_app {a b : Str} (h : PyData.strOk a = true) (h' : PyData.strOk b = true) : PyData.strOk (a ++ b) = true := by
  unfold PyData.strOk at *
  rw [← Array.all_toList, List.all_eq_true] at h h' ⊢
  intro c hc
  have hc : c ∈ (a.cps ++ b.cps).toList := hc
  rw [Array.toList_append] at hc
  rcases List.mem_append.mp hc with hc | hc
  · exact h c hc
  · exact h' c hc
theorem mem_join {y a : Str} {c : Nat} : ∀ {l : List Str}, a ∈ l → c ∈ a.cps.toList → c ∈ (Str.join y l).cps.toList
  | [], h, _ => nomatch h
  | [b], h, hc => by
    rw [List.mem_singleton.mp h] at hc
    exact hc
  | b :: d :: l, h, hc => by
    show c ∈ (b.cps ++ y.cps ++ (Str.join y (d :: l)).cps).toList
    rw [Array.toList_append, Array.toList_append]
    rcases List.mem_cons.mp h with e | h
    · rw [e] at hc
      exact List.mem_append_left _ (List.mem_append_left _ hc)
    · exact List.mem_append_right _ (mem_join h hc)
theorem ok_split {z y w : Str} (h : PyData.strOk z = true) (hw : w ∈ Txt.split z y) : PyData.strOk w = true :=
  ok_sub h fun c hc => by
    have := mem_join (y := y) hw hc
    rw [StrLaws.join_split] at this
    exact this
theorem sum_mem {l : List Str} {w : Str} (h : w ∈ l) : w.length ≤ (l.map (·.length)).sum := by
  induction l with
  | nil => cases h
  | cons a l ih =>
    rw [List.map_cons, List.sum_cons]
    rcases List.mem_cons.mp h with e | h
    · rw [e]; omega
    · have := ih h; omega
theorem len_split {z y w : Str} (hy : 1 ≤ y.length) (hw : w ∈ Txt.split z y) : w.length ≤ z.length := by
  have h1 := PyProof.Rows.split_weight z y hy
  have h2 := sum_mem hw
  have h3 : 1 ≤ (Txt.split z y).length := PyProof.Rows.split_pos z y
  omega
theorem cnt_split {z y : Str} (hy : 1 ≤ y.length) : (Txt.split z y).length ≤ z.length + 1 := by
  have h1 := PyProof.Rows.split_weight z y hy
  omega
/-! numbers from digits -/
theorem val_ge : ∀ (cs : List Nat) (acc : Nat), acc ≤ cs.foldl (fun acc c => acc * 10 + (c - 48)) acc
  | [], acc => Nat.le_refl _
  | c :: cs, acc => by
    have := val_ge cs (acc * 10 + (c - 48))
    show acc ≤ cs.foldl _ (acc * 10 + (c - 48))
    omega
theorem val_lt : ∀ (cs : List Nat) (acc : Nat), NumText.AllDigits cs → cs.foldl (fun acc c => acc * 10 + (c - 48)) acc < (acc + 1) * 10 ^ cs.length
  | [], acc, _ => by simp
  | c :: cs, acc, h => by
    have h1 := val_lt cs (acc * 10 + (c - 48)) fun d hd => h d (List.mem_cons_of_mem _ hd)
    have h2 := h c List.mem_cons_self
    show cs.foldl _ (acc * 10 + (c - 48)) < _
    have h3 : (acc * 10 + (c - 48) + 1) * 10 ^ cs.length ≤ (acc + 1) * 10 ^ (cs.length + 1) := by
      rw [Nat.pow_succ, Nat.mul_comm (10 ^ cs.length) 10, ← Nat.mul_assoc]
      exact Nat.mul_le_mul_right _ (by omega)
    rw [List.length_cons]
    omega
@[simp] theorem allD_1 (a : Bool) : allD [.list [.bool a]] = some (.d (.bool a)) := by cases a <;> rfl
@[simp] theorem allD_2 (a b : Bool) : allD [.list [.bool a, .bool b]] = some (.d (.bool (a && b))) := by cases a <;> cases b <;> rfl
@[simp] theorem isN_eq (b : Bool) (a : SO) (ρ : Sl) : isN b a ρ = (a ρ).bd fun o ρ1 => Ev.ret ((lkN ρ1 o).map fun k => .d (.bool (k == b))) ρ1 := rfl
def lkR : Option W → Option Bool
  | some (.d .none) => some true
  | some (.ex _ _) => some false
  | some (.d _) => some false
  | some (.fl _) => some false
  | some (.ow _) => some false
  | none => none
def forR (tg : ST') (b : SS) (sr : Sr) (ρ1 : Sl) : SR := match sr.2 with
  | [] => forGo tg b sr.1 ρ1
  | _ => .no
@[simp] theorem forS_eq (tg : ST') (src : SI) (b : SS) (ρ : Sl) : forS tg src b ρ = bs (src ρ) fun sr ρ1 => forR tg b sr ρ1 := rfl
@[simp] theorem forR_nil (tg : ST') (b : SS) (xs : List PyData) (ρ1 : Sl) : forR tg b (xs, []) ρ1 = forGo tg b xs ρ1 := rfl
def enR (ρ1 : Sl) : Option Sr → R Sr
  | some sr => .ok (enumD 0 sr.1, sr.2) ρ1
  | none => .no
@[simp] theorem enumS_eq (a : SO) (ρ : Sl) : enumS a ρ = (a ρ).bd fun o ρ1 => enR ρ1 (srO ρ1 o) := by
  unfold enumS
  cases a ρ with
  | ok o ρ1 => simp only [bd_ok]; unfold enR; cases srO ρ1 o <;> rfl
  | ex C x ρ1 => rfl
  | no => rfl
@[simp] theorem enR_some (ρ1 : Sl) (sr : Sr) : enR ρ1 (some sr) = .ok (enumD 0 sr.1, sr.2) ρ1 := rfl
@[simp] theorem isiD_str (z : Str) : isiD .str (.str z) = some (.d (.bool true)) := rfl
theorem forGo_nil (tg : ST') (b : SS) (ρ : Sl) : forGo tg b [] ρ = .nx ρ := rfl
theorem forGo_nx {tg : ST'} {b : SS} {x : PyData} {xs : List PyData} {ρ ρ1 ρ2 : Sl} (h : tg x ρ = some ρ1) (h2 : b ρ1 = .nx ρ2) : forGo tg b (x :: xs) ρ = forGo tg b xs ρ2 := by
  conv => lhs; unfold forGo
  simp only [h, h2]
theorem forGo_rt {tg : ST'} {b : SS} {x : PyData} {xs : List PyData} {ρ ρ1 ρ2 : Sl} {w : W} (h : tg x ρ = some ρ1) (h2 : b ρ1 = .rt w ρ2) : forGo tg b (x :: xs) ρ = .rt w ρ2 := by
  conv => lhs; unfold forGo
  simp only [h, h2]
@[simp] theorem lkN_s (ρ : Sl) (i : Nat) : lkN ρ (.s i) = lkR (gt ρ i) := by
  show (match gt ρ i with | some (.d .none) => some true | some _ => some false | none => none) = _
  cases gt ρ i with
  | none => rfl
  | some w => cases w with
    | d x => cases x <;> rfl
    | _ => rfl
@[simp] theorem lkN_v0 (ρ : Sl) : lkN ρ (.v .none) = some true := rfl
@[simp] theorem lkN_vi (ρ : Sl) (i : Int) : lkN ρ (.v (.int i)) = some false := rfl
@[simp] theorem lkR_0 : lkR (some (.d .none)) = some true := rfl
@[simp] theorem lkR_i (i : Int) : lkR (some (.d (.int i))) = some false := rfl
@[simp] theorem lkR_fl (xs : List PyData) : lkR (some (.fl xs)) = some false := rfl
@[simp] theorem lkR_l (xs : List PyData) : lkR (some (.d (.list xs))) = some false := rfl
@[simp] theorem lkR_ex (C : Nat) (x : PyData) : lkR (some (.ex C x)) = some false := rfl
@[simp] theorem beq_tt : (true == true) = true := rfl
@[simp] theorem beq_tf : (true == false) = false := rfl
@[simp] theorem beq_ft : (false == true) = false := rfl
@[simp] theorem beq_ff : (false == false) = true := rfl
theorem fmodB (a b : Int) (h : 0 < b) : 0 ≤ a.fmod b ∧ a.fmod b < b := ⟨Int.fmod_nonneg_of_pos a h, Int.fmod_lt_of_pos a h⟩
def siR (i : Nat) (ρ2 : Sl) (x n : PyData) : Option W → SR
  | some (.fl xs) => match n with
    | .int j => match ixN xs.length j with
      | some m => .nx (pt ρ2 i (some (.fl (xs.set m x))))
      | none => .no
    | _ => .no
  | _ => .no
def siQ (i : Nat) (k : SD) (ρ1 : Sl) (x : PyData) : Option W → SR
  | some (.fl _) => bs (k ρ1) fun n ρ2 => siR i ρ2 x n (gt ρ2 i)
  | _ => .no
@[simp] theorem siS_eq (i : Nat) (s k : SD) (ρ : Sl) : siS i s k ρ = bs (s ρ) fun x ρ1 => siQ i k ρ1 x (gt ρ1 i) := by
  unfold siS
  cases s ρ with
  | no => rfl
  | ex C x ρ1 => rfl
  | ok x ρ1 =>
    simp only [bs_ok]
    unfold siQ
    cases gt ρ1 i with
    | none => rfl
    | some w => cases w with
      | fl xs =>
        simp only
        cases k ρ1 with
        | no => rfl
        | ex C y ρ2 => rfl
        | ok n ρ2 =>
          simp only [bs_ok]
          unfold siR
          cases gt ρ2 i with
          | none => cases n <;> rfl
          | some w2 => cases w2 <;> cases n <;> rfl
      | _ => rfl
@[simp] theorem siQ_fl (i : Nat) (k : SD) (ρ1 : Sl) (x : PyData) (xs : List PyData) : siQ i k ρ1 x (some (.fl xs)) = bs (k ρ1) fun n ρ2 => siR i ρ2 x n (gt ρ2 i) := rfl
theorem siR_ok {i : Nat} {ρ2 : Sl} {x : PyData} {j : Int} {xs : List PyData} {m : Nat} (h : ixN xs.length j = some m) : siR i ρ2 x (.int j) (some (.fl xs)) = .nx (pt ρ2 i (some (.fl (xs.set m x)))) := by
  unfold siR
  simp only [h]
@[simp] theorem siR_0 (i : Nat) (ρ2 : Sl) (x a : PyData) (r : List PyData) : siR i ρ2 x (.int 0) (some (.fl (a :: r))) = .nx (pt ρ2 i (some (.fl (x :: r)))) := siR_ok (m := 0) (by unfold ixN; simp <;> omega)
@[simp] theorem siR_2 (i : Nat) (ρ2 : Sl) (x a b c : PyData) (r : List PyData) : siR i ρ2 x (.int 2) (some (.fl (a :: b :: c :: r))) = .nx (pt ρ2 i (some (.fl (a :: b :: x :: r)))) := siR_ok (m := 2) (by unfold ixN; simp <;> omega)
@[simp] theorem ixD_l0 (x : PyData) (xs : List PyData) : ixD (.list (x :: xs)) (.int 0) = some (.d x) := ixD_l (atI_nat (i := 0) rfl)
@[simp] theorem ixD_l1 (x y : PyData) (xs : List PyData) : ixD (.list (x :: y :: xs)) (.int 1) = some (.d y) := ixD_l (atI_nat (i := 1) rfl)
@[simp] theorem ixD_l2 (x y z : PyData) (xs : List PyData) : ixD (.list (x :: y :: z :: xs)) (.int 2) = some (.d z) := ixD_l (atI_nat (i := 2) rfl)
@[simp] theorem bitsD_i (a : Int) : bitsD (.int a) = some (.d (.int (Builtin.Int.intBits a : Nat))) := rfl
def rgR (ρ1 : Sl) : PyData → R Sr
  | .int j => if -(2 ^ 62) ≤ j ∧ j < 2 ^ 62 then .ok (rangeD 0 j.toNat, []) ρ1 else .no
  | _ => .no
@[simp] theorem rngS1_eq (a : SD) (ρ : Sl) : rngS1 a ρ = (a ρ).bd fun x ρ1 => rgR ρ1 x := by
  unfold rngS1
  cases a ρ with
  | ok x ρ1 => simp only [bd_ok]; unfold rgR; cases x <;> rfl
  | ex C x ρ1 => rfl
  | no => rfl
theorem rgR_ok (ρ1 : Sl) (n : Nat) (h : n < 2 ^ 61) : rgR ρ1 (.int (n : Int)) = .ok (rangeD 0 n, []) ρ1 := by
  unfold rgR
  have hc : -(2 ^ 62) ≤ (n : Int) ∧ (n : Int) < 2 ^ 62 := ⟨by omega, by omega⟩
  simp only
  rw [if_pos hc, Int.toNat_natCast]
end Ev
set_option Elab.async false
set_option maxRecDepth 100000
set_option maxHeartbeats 4000000
namespace K85
open PySem PySem.Spec PyProof.Rows L2 Ev
def top (i : Nat) : Stmt := PySem.Challenge.pw_fewnonzero_k85_whole_wrong_lines_of_tabl.main.body.getD i (.Pass ⟨0, 0, 0, 0⟩)
def xn : Nat → Option Str
  | 0 => some "InvalidText"
  | _ => none
def xsub : Nat → Nat → Bool
  | 0, 0 => true
  | _, _ => false
def con : Nat → Option (Str × PyData)
  | 0 => some ("MOST_ROWS", (.int 5))
  | 1 => some ("MOST_COLUMNS", (.int 8))
  | 2 => some ("END", (.str "\n"))
  | 3 => some ("FIGURES", (.int 9))
  | _ => none
/-- _law_cell -/
noncomputable def s_x_law_cell : SS := (sqS (ifS (tst (op2 cLt (oV 1) (ooc (fzc (opn lenD (consA (oV 0) nilA)))))) (sqS (rtS (op2 ixD (oV 0) (oV 1)))
    skp) skp)
    (sqS (rtS (op2 binR (ooc (fzc (opn sumD (consA (ooc (fzc (slE (oV 0) noP (soP (eC (.int 1)))))) nilA)))) (ooc (eC (.int 1000003)))))
    skp))
noncomputable def f_x_law_cell : SE := bodyR 2 2 [] s_x_law_cell
/-- _law_generator -/
noncomputable def s_x_law_generator : SS := (sqS (asS 2 (callE 2 f_x_law_cell (consA (ooc (eV 0)) (consA (ooc (eV 1)) nilA))))
    (sqS (rtS (lstE (consA (ooc (fzc (op2 binR (ooc (fzc (opn intD (consA (ooc (fzc (opn maxD (consA (ooc (fzc (op2 binS (oV 2) (ooc (fzc (op2 binP (ooc (eC (.int 10))) (ooc (eC (.int 18))))))))) (consA (ooc (eC (.int 0))) nilA))))) nilA)))) (ooc (fzc (op2 binP (ooc (fzc (op2 binP (ooc (eC (.int 10))) (ooc (eC (.int 60)))))) (ooc (eC (.int 10))))))))) (consA (ooc (fzc (op2 binR (ooc (fzc (opn intD (consA (oV 2) nilA)))) (ooc (eC (.int 2147483647)))))) (consA (ooc (fzc (op2 binM (ooc (eC (.int 1000))) (oV 1)))) nilA)))))
    skp))
noncomputable def f_x_law_generator : SE := bodyR 3 2 [2] s_x_law_generator
/-- _law_word -/
noncomputable def s_x_law_word : SS := (sqS (rtS (ifE (tst (op2 cmpE (ooc (fzc (op2 ixD (oV 0) (ooc (eC (.int 1)))))) (ooc (eC (.int 1))))) (opn strD (consA (ooc (fzc (op2 ixD (oV 0) (ooc (eC (.int 0)))))) nilA)) (op2 binA (ooc (fzc (op2 binA (ooc (fzc (opn strD (consA (ooc (fzc (op2 ixD (oV 0) (ooc (eC (.int 0)))))) nilA)))) (ooc (eC (.str "/")))))) (ooc (fzc (opn strD (consA (ooc (fzc (op2 ixD (oV 0) (ooc (eC (.int 1)))))) nilA)))))))
    skp)
noncomputable def f_x_law_word : SE := bodyR 1 1 [] s_x_law_word
/-- _law_words -/
noncomputable def s_x_law_words : SS := (sqS (rtS (smE joinD (ooc (eC (.str " "))) (ooc (fzc (compE [1] (nmG 1) yesT (fzc (callE 1 f_x_law_word (consA (ooc (eV 1)) nilA))) (anyS (oV 0)))))))
    skp)
noncomputable def f_x_law_words : SE := bodyR 2 1 [] s_x_law_words
/-- _law_text -/
noncomputable def s_x_law_text : SS := (sqS (rtS (smE joinD (ooc (eC (.str ""))) (ooc (fzc (compE [1] (nmG 1) yesT (fzc (op2 binA (ooc (fzc (callE 1 f_x_law_words (consA (ooc (eV 1)) nilA)))) (ooc (eC (.str "\n"))))) (anyS (oV 0)))))))
    skp)
noncomputable def f_x_law_text : SE := bodyR 2 1 [] s_x_law_text
/-- _law_hash -/
noncomputable def s_x_law_hash : SS := (sqS (asS 2 (op2 binR (ooc (fzc (opn intD (consA (ooc (fzc (op2 binA (ooc (fzc (op2 binA (ooc (fzc (op2 binA (ooc (fzc (op2 binM (oV 0) (ooc (eC (.int 1140671)))))) (ooc (fzc (op2 binM (ooc (fzc (op2 binM (ooc (eC (.int 27644437))) (oV 1)))) (oV 1))))))) (ooc (fzc (op2 binM (ooc (eC (.int 131))) (oV 1))))))) (ooc (eC (.int 19)))))) nilA)))) (ooc (eC (.int 2147483629)))))
    (sqS (asS 2 (op2 binR (ooc (fzc (opn intD (consA (ooc (fzc (op2 binA (ooc (fzc (op2 binA (ooc (fzc (op2 binM (oV 2) (oV 2)))) (ooc (fzc (op2 binM (ooc (eC (.int 62089))) (oV 1))))))) (ooc (eC (.int 32416187)))))) nilA)))) (ooc (eC (.int 2147483587)))))
    (sqS (rtS (op2 binR (ooc (fzc (opn intD (consA (ooc (fzc (op2 binM (oV 2) (ooc (eC (.int 48271)))))) nilA)))) (ooc (eC (.int 2147483647)))))
    skp)))
noncomputable def f_x_law_hash : SE := bodyR 3 2 [2] s_x_law_hash
/-- _law_random -/
noncomputable def s_x_law_random : SS := (sqS (ifS (tst (op2 cGt (ooc (fzc (op2 ixD (oV 0) (ooc (eC (.int 0)))))) (ooc (eC (.int 0))))) (sqS (asS 2 (op2 binR (ooc (fzc (opn intD (consA (ooc (fzc (op2 ixD (oV 0) (ooc (eC (.int 0)))))) nilA)))) (oV 1)))
    (sqS (siS 0 (fzc (op2 binQ (ooc (fzc (op2 ixD (oV 0) (ooc (eC (.int 0)))))) (oV 1))) (eC (.int 0)))
    (sqS (rtS (eM 2))
    skp))) skp)
    (sqS (asS 2 (upc (eC (.int 0))))
    (sqS (forS (nmG 3) (rngS1 (fzc (op2 binA (ooc (eC (.int 1))) (ooc (fzc (op2 binQ (ooc (fzc (op1 bitsD (oV 1)))) (ooc (eC (.int 30))))))))) (sqS (siS 0 (fzc (op2 binA (ooc (fzc (op2 ixD (oV 0) (ooc (eC (.int 2)))))) (ooc (eC (.int 1))))) (eC (.int 2)))
    (sqS (asS 2 (op2 binA (ooc (fzc (op2 binM (oV 2) (ooc (eC (.int 2147483587)))))) (ooc (fzc (callE 2 f_x_law_hash (consA (ooc (fzc (op2 ixD (oV 0) (ooc (eC (.int 1)))))) (consA (ooc (fzc (op2 ixD (oV 0) (ooc (eC (.int 2)))))) nilA)))))))
    skp)))
    (sqS (rtS (op2 binR (ooc (fzc (opn intD (consA (oV 2) nilA)))) (oV 1)))
    skp))))
noncomputable def f_x_law_random : SE := bodyR 4 2 [2, 3] s_x_law_random
/-- _law_pick -/
noncomputable def s_x_law_pick : SS := (sqS (rtS (op2 ixD (oV 1) (ooc (fzc (callE 2 f_x_law_random (consA (oV 0) (consA (ooc (fzc (opn lenD (consA (oV 1) nilA)))) nilA)))))))
    skp)
noncomputable def f_x_law_pick : SE := bodyR 2 2 [] s_x_law_pick
/-- _law_texts -/
noncomputable def s_x_law_texts : SS := (sqS (parS [2, 3] (consA (ooc (fzc (callE 1 f_x_law_text (consA (ooc (eV 1)) nilA)))) (consA (ooc (fzc (slE (ooc (fzc (smE splitD (ooc (fzc (callE 1 f_x_law_text (consA (ooc (eV 1)) nilA)))) (ooc (eC (.str "\n")))))) noP (soP (fzc (op1 negD (ooc (eC (.int 1))))))))) nilA)))
    (sqS (parS [4, 5, 6] (consA (ooc (fzc (callE 2 f_x_law_random (consA (oV 0) (consA (ooc (fzc (opn lenD (consA (oV 3) nilA)))) nilA))))) (consA (ooc (fzc (callE 2 f_x_law_random (consA (oV 0) (consA (ooc (fzc (opn lenD (consA (oV 3) nilA)))) nilA))))) (consA (ooc (fzc (callE 2 f_x_law_random (consA (oV 0) (consA (ooc (fzc (op2 binA (ooc (fzc (opn lenD (consA (oV 2) nilA)))) (ooc (eC (.int 1)))))) nilA))))) nilA))))
    (sqS (asS 7 (lstE (consA (ooc (eV 2)) (consA (ooc (fzc (op2 binA (oV 2) (ooc (eC (.str "\n")))))) (consA (ooc (fzc (slE (oV 2) noP (soP (fzc (op1 negD (ooc (eC (.int 1))))))))) (consA (ooc (eC (.str ""))) (consA (ooc (eC (.str "\n"))) (consA (ooc (fzc (op2 binA (ooc (eC (.str " "))) (oV 2)))) (consA (ooc (fzc (op2 binA (oV 2) (oV 2)))) (consA (ooc (fzc (op2 binM (oV 2) (ooc (eC (.int 5)))))) (consA (ooc (fzc (slE (oV 2) noP (soP (eV 6))))) (consA (ooc (fzc (slE (oV 2) (soP (eV 6)) noP))) nilA))))))))))))
    (sqS (asS 8 (lstE (consA (ooc (fzc (op2 binA (ooc (fzc (slE (oV 3) noP (soP (eV 4))))) (ooc (fzc (slE (oV 3) (soP (fzc (op2 binA (oV 4) (ooc (eC (.int 1)))))) noP)))))) (consA (ooc (fzc (op2 binA (ooc (fzc (op2 binA (ooc (fzc (slE (oV 3) noP (soP (eV 4))))) (ooc (fzc (slE (oV 3) (soP (eV 4)) (soP (fzc (op2 binA (oV 4) (ooc (eC (.int 1)))))))))))) (ooc (fzc (slE (oV 3) (soP (eV 4)) noP)))))) (consA (ooc (fzc (revE (oV 3)))) (consA (ooc (fzc (op2 binA (ooc (fzc (op2 binA (ooc (fzc (slE (oV 3) noP (soP (eV 4))))) (ooc (fzc (lstE (consA (ooc (fzc (op2 ixD (oV 3) (oV 5)))) nilA))))))) (ooc (fzc (slE (oV 3) (soP (fzc (op2 binA (oV 4) (ooc (eC (.int 1)))))) noP)))))) nilA))))))
    (sqS (forS (nmG 9) (anyS (ooc (fzc (op2 binA (oV 8) (ooc (fzc (lstE (consA (ooc (fzc (op2 binA (oV 3) (ooc (fzc (lstE (consA (ooc (eC (.str "0 1"))) nilA))))))) (consA (ooc (fzc (op2 binA (oV 3) (ooc (fzc (lstE (consA (ooc (fzc (op2 binA (ooc (fzc (op2 ixD (oV 3) (ooc (eC (.int 0)))))) (ooc (eC (.str " 1")))))) nilA))))))) (consA (ooc (fzc (op2 binA (oV 3) (ooc (fzc (lstE (consA (ooc (fzc (smE joinD (ooc (eC (.str " "))) (ooc (fzc (op2 binM (ooc (fzc (lstE (consA (ooc (eC (.str "1"))) nilA)))) (ooc (fzc (opn lenD (consA (ooc (fzc (op2 ixD (oV 1) (ooc (eC (.int 0)))))) nilA)))))))))) nilA))))))) (consA (ooc (fzc (op2 binA (oV 3) (ooc (fzc (lstE (consA (ooc (fzc (op2 binA (ooc (fzc (op2 binM (ooc (eC (.str "2/4 "))) (ooc (fzc (op2 binS (ooc (fzc (opn lenD (consA (ooc (fzc (op2 ixD (oV 1) (ooc (eC (.int 0)))))) nilA)))) (ooc (eC (.int 1))))))))) (ooc (eC (.str "1")))))) nilA))))))) nilA))))))))))) (sqS (exS (appE 7 (fzc (smE joinD (ooc (eC (.str ""))) (ooc (fzc (compE [12] (nmG 12) yesT (fzc (op2 binA (oV 12) (ooc (eC (.str "\n"))))) (anyS (oV 9)))))))))
    skp))
    (sqS (forS (nmG 10) (rngS1 (eC (.int 5))) (sqS (asS 11 (callE 2 f_x_law_random (consA (oV 0) (consA (ooc (fzc (opn lenD (consA (oV 2) nilA)))) nilA))))
    (sqS (exS (appE 7 (fzc (op2 binA (ooc (fzc (op2 binA (ooc (fzc (slE (oV 2) noP (soP (eV 11))))) (ooc (fzc (callE 2 f_x_law_pick (consA (oV 0) (consA (ooc (fzc (lstE (consA (ooc (eC (.str "0"))) (consA (ooc (eC (.str "1"))) (consA (ooc (eC (.str "2"))) (consA (ooc (eC (.str "/"))) (consA (ooc (eC (.str " "))) (consA (ooc (eC (.str "\n"))) (consA (ooc (eC (.str "-"))) nilA)))))))))) nilA)))))))) (ooc (fzc (slE (oV 2) (soP (fzc (op2 binA (oV 11) (ooc (fzc (callE 2 f_x_law_random (consA (oV 0) (consA (ooc (eC (.int 2))) nilA)))))))) noP)))))))
    skp)))
    (sqS (rtS (eM 7))
    skp)))))))
noncomputable def f_x_law_texts : SE := bodyR 13 2 [2, 3, 4, 5, 6, 7, 8, 9, 10, 11] s_x_law_texts
/-- _law_lowest -/
noncomputable def s_x_law_lowest : SS := (sqS (parS [2, 3] (consA (ooc (fzc (opn absD (consA (oV 0) nilA)))) (consA (ooc (fzc (opn absD (consA (oV 1) nilA)))) nilA)))
    (sqS (whS (tst (op2 cGt (oV 3) (ooc (eC (.int 0))))) (sqS (parS [2, 3] (consA (ooc (eV 3)) (consA (ooc (fzc (op2 binS (oV 2) (ooc (fzc (op2 binM (ooc (fzc (op2 binQ (oV 2) (oV 3)))) (oV 3))))))) nilA)))
    skp))
    (sqS (rtS (ifE (tst (op2 cGt (oV 1) (ooc (eC (.int 0))))) (upc (tupE (consA (ooc (fzc (op2 binQ (oV 0) (oV 2)))) (consA (ooc (fzc (op2 binQ (oV 1) (oV 2)))) nilA)))) (upc (tupE (consA (ooc (fzc (op2 binS (ooc (eC (.int 0))) (ooc (fzc (op2 binQ (oV 0) (oV 2))))))) (consA (ooc (fzc (op2 binS (ooc (eC (.int 0))) (ooc (fzc (op2 binQ (oV 1) (oV 2))))))) nilA))))))
    skp)))
noncomputable def f_x_law_lowest : SE := bodyR 4 2 [2, 3] s_x_law_lowest
/-- _law_times -/
noncomputable def s_x_law_times : SS := (sqS (rtS (callE 2 f_x_law_lowest (consA (ooc (fzc (op2 binM (ooc (fzc (op2 ixD (oV 0) (ooc (eC (.int 0)))))) (ooc (fzc (op2 ixD (oV 1) (ooc (eC (.int 0))))))))) (consA (ooc (fzc (op2 binM (ooc (fzc (op2 ixD (oV 0) (ooc (eC (.int 1)))))) (ooc (fzc (op2 ixD (oV 1) (ooc (eC (.int 1))))))))) nilA))))
    skp)
noncomputable def f_x_law_times : SE := bodyR 2 2 [] s_x_law_times
/-- _law_table -/
noncomputable def s_x_law_table : SS := (sqS (tgS (tupE (consA (ooc (fzc (op2 binA (ooc (eC (.int 1))) (ooc (fzc (callE 2 f_x_law_random (consA (oV 0) (consA (ooc (eV 1)) nilA)))))))) (consA (ooc (fzc (op2 binA (ooc (eC (.int 2))) (ooc (fzc (callE 2 f_x_law_random (consA (oV 0) (consA (ooc (fzc (op2 binS (oV 2) (ooc (eC (.int 1)))))) nilA)))))))) nilA))) (tupG 2 (consG (nmG 3) (consG (nmG 4) nilG))))
    (sqS (asS 5 (cowE [8] (nmG 8) yesT (compE [9] (nmG 9) yesT (fzc (callE 2 f_x_law_lowest (consA (ooc (fzc (op2 binS (ooc (fzc (callE 2 f_x_law_random (consA (oV 0) (consA (ooc (eC (.int 5))) nilA))))) (ooc (eC (.int 2)))))) (consA (ooc (fzc (op2 binA (ooc (eC (.int 1))) (ooc (fzc (opn intD (consA (ooc (fzc (op2 cmpE (ooc (fzc (callE 2 f_x_law_random (consA (oV 0) (consA (ooc (eC (.int 6))) nilA))))) (ooc (eC (.int 0)))))) nilA))))))) nilA)))) (rngS1 (eV 4))) (rngS1 (eV 3))))
    (sqS (ifS (tst (op2 cmpE (ooc (fzc (callE 2 f_x_law_random (consA (oV 0) (consA (ooc (eC (.int 4))) nilA))))) (ooc (eC (.int 0))))) (sqS (parS [6, 7] (consA (ooc (fzc (callE 2 f_x_law_random (consA (oV 0) (consA (ooc (eV 4)) nilA))))) (consA (ooc (fzc (callE 2 f_x_law_random (consA (oV 0) (consA (ooc (eV 4)) nilA))))) nilA)))
    (sqS (forOwS 8 5 (sqS (siS 8 (fzc (ifE (tst (op2 cmpN (oV 6) (oV 7))) (callE 2 f_x_law_times (consA (ooc (fzc (op2 ixD (oV 8) (oV 6)))) (consA (ooc (tupE (consA (ooc (fzc (op2 binS (ooc (eC (.int 0))) (ooc (eC (.int 2)))))) (consA (ooc (eC (.int 1))) nilA)))) nilA))) (op2 ixD (oV 8) (oV 7)))) (eV 7))
    skp))
    skp)) skp)
    (sqS (rtS (eM 5))
    skp))))
noncomputable def f_x_law_table : SE := bodyR 10 3 [3, 4, 5, 6, 7, 8] s_x_law_table
/-- common_divisor -/
noncomputable def s_common_divisor : SS := (sqS (parS [0, 1] (consA (ooc (fzc (opn absD (consA (oV 0) nilA)))) (consA (ooc (fzc (opn absD (consA (oV 1) nilA)))) nilA)))
    (sqS (whS (tst (op2 cGt (oV 1) (ooc (eC (.int 0))))) (sqS (parS [0, 1] (consA (ooc (eV 1)) (consA (ooc (fzc (op2 binR (oV 0) (oV 1)))) nilA)))
    skp))
    (sqS (rtS (eM 0))
    skp)))
noncomputable def f_common_divisor : SE := bodyR 2 2 [0, 1] s_common_divisor
/-- lowest -/
noncomputable def s_lowest : SS := (sqS (ifS (tst (op2 cLt (oV 1) (ooc (eC (.int 0))))) (sqS (parS [0, 1] (consA (ooc (fzc (op1 negD (oV 0)))) (consA (ooc (fzc (op1 negD (oV 1)))) nilA)))
    skp) skp)
    (sqS (asS 2 (callE 2 f_common_divisor (consA (ooc (eV 0)) (consA (ooc (eV 1)) nilA))))
    (sqS (rtS (upc (tupE (consA (ooc (fzc (op2 binQ (oV 0) (oV 2)))) (consA (ooc (fzc (op2 binQ (oV 1) (oV 2)))) nilA)))))
    skp)))
noncomputable def f_lowest : SE := bodyR 3 2 [0, 1, 2] s_lowest
/-- fraction_words -/
noncomputable def s_fraction_words : SS := (sqS (rtS (ifE (tst (op2 cmpE (ooc (fzc (op2 ixD (oV 0) (ooc (eC (.int 1)))))) (ooc (eC (.int 1))))) (opn strD (consA (ooc (fzc (op2 ixD (oV 0) (ooc (eC (.int 0)))))) nilA)) (op2 binA (ooc (fzc (op2 binA (ooc (fzc (opn strD (consA (ooc (fzc (op2 ixD (oV 0) (ooc (eC (.int 0)))))) nilA)))) (ooc (eC (.str "/")))))) (ooc (fzc (opn strD (consA (ooc (fzc (op2 ixD (oV 0) (ooc (eC (.int 1)))))) nilA)))))))
    skp)
noncomputable def f_fraction_words : SE := bodyR 1 1 [] s_fraction_words
/-- is_digits -/
noncomputable def s_is_digits : SS := (sqS (ifS (orT (notT (tst (cm2 cLe cLe (ooc (eC (.int 1))) (ooc (fzc (opn lenD (consA (oV 0) nilA)))) (ooc (eC (.int 9)))))) (notT (tst (opn allD (consA (ooc (fzc (compE [1] (nmG 1) yesT (fzc (op2 (cmpIn false) (oV 1) (ooc (eC (.str "0123456789"))))) (anyS (oV 0))))) nilA))))) (sqS (rtS (upc (eC (.bool false))))
    skp) skp)
    (sqS (rtS (orE (fzc (op2 cmpN (ooc (fzc (op2 ixD (oV 0) (ooc (eC (.int 0)))))) (ooc (eC (.str "0"))))) (op2 cmpE (ooc (fzc (opn lenD (consA (oV 0) nilA)))) (ooc (eC (.int 1))))))
    skp))
noncomputable def f_is_digits : SE := bodyR 2 1 [] s_is_digits
/-- fraction_told -/
noncomputable def s_fraction_told : SS := (sqS (asS 1 (smE splitD (ooc (fzc (ifE (tst (op2 cmpE (ooc (fzc (slE (oV 0) noP (soP (eC (.int 1)))))) (ooc (eC (.str "-"))))) (slE (oV 0) (soP (eC (.int 1))) noP) (upc (eV 0))))) (ooc (eC (.str "/")))))
    (sqS (ifS (orT (tst (op2 cGt (ooc (fzc (opn lenD (consA (oV 1) nilA)))) (ooc (eC (.int 2))))) (orT (notT (tst (opn allD (consA (ooc (fzc (compE [4] (nmG 4) yesT (fzc (callE 1 f_is_digits (consA (ooc (eV 4)) nilA))) (anyS (oV 1))))) nilA)))) (andT (tst (op2 cmpE (ooc (fzc (op2 ixD (oV 1) (ooc (fzc (op1 negD (ooc (eC (.int 1))))))))) (ooc (eC (.str "0"))))) (tst (op2 cmpE (ooc (fzc (opn lenD (consA (oV 1) nilA)))) (ooc (eC (.int 2)))))))) (sqS (rtS (upc (eC .none)))
    skp) skp)
    (sqS (asS 2 (ifE (tst (op2 cmpE (ooc (fzc (opn lenD (consA (oV 1) nilA)))) (ooc (eC (.int 2))))) (opn intD (consA (ooc (fzc (op2 ixD (oV 1) (ooc (eC (.int 1)))))) nilA)) (upc (eC (.int 1)))))
    (sqS (asS 3 (callE 2 f_lowest (consA (ooc (fzc (ifE (tst (op2 cmpE (ooc (fzc (slE (oV 0) noP (soP (eC (.int 1)))))) (ooc (eC (.str "-"))))) (op1 negD (ooc (fzc (opn intD (consA (ooc (fzc (op2 ixD (oV 1) (ooc (eC (.int 0)))))) nilA))))) (opn intD (consA (ooc (fzc (op2 ixD (oV 1) (ooc (eC (.int 0)))))) nilA))))) (consA (ooc (eV 2)) nilA))))
    (sqS (rtS (ifE (tst (op2 cmpE (ooc (fzc (callE 1 f_fraction_words (consA (ooc (eV 3)) nilA)))) (oV 0))) (eM 3) (upc (eC .none))))
    skp)))))
noncomputable def f_fraction_told : SE := bodyR 5 1 [1, 2, 3] s_fraction_told
/-- row_told -/
noncomputable def s_row_told : SS := (sqS (asS 1 (compE [2] (nmG 2) yesT (fzc (callE 1 f_fraction_told (consA (ooc (eV 2)) nilA))) (anyS (ooc (fzc (smE splitD (oV 0) (ooc (eC (.str " ")))))))))
    (sqS (rtS (ifE (orT (tst (op2 (cmpIn false) (ooc (eC .none)) (oV 1))) (tst (op2 cGt (ooc (fzc (opn lenD (consA (oV 1) nilA)))) (ooc (eC (.int 8)))))) (upc (eC .none)) (eM 1)))
    skp))
noncomputable def f_row_told : SE := bodyR 3 1 [1] s_row_told
/-- wrong_in -/
noncomputable def s_wrong_in : SS := (sqS (asS 1 (upc (eC (.int 0))))
    (sqS (forS (tupG 2 (consG (nmG 2) (consG (nmG 3) nilG))) (enumS (ooc (eV 0))) (sqS (asS 4 (callE 1 f_row_told (consA (ooc (eV 3)) nilA)))
    (sqS (ifS (orT (tst (isN true (oV 4))) (orT (tst (op2 cLt (ooc (fzc (opn lenD (consA (oV 4) nilA)))) (ooc (eC (.int 2))))) (orT (tst (op2 cmpE (oV 2) (ooc (eC (.int 5))))) (andT (tst (op2 cGt (oV 2) (ooc (eC (.int 0))))) (tst (op2 cmpN (ooc (fzc (opn lenD (consA (oV 4) nilA)))) (oV 1))))))) (sqS (rtS (eM 2))
    skp) skp)
    (sqS (asS 1 (opn lenD (consA (oV 4) nilA)))
    skp))))
    (sqS (rtS (upc (eC .none)))
    skp)))
noncomputable def f_wrong_in : SE := bodyR 5 1 [1, 2, 3, 4] s_wrong_in
/-- wrong_by -/
noncomputable def s_wrong_by : SS := (sqS (asS 1 (smE splitD (oV 0) (ooc (eC (.str "\n")))))
    (sqS (asS 2 (callE 1 f_wrong_in (consA (ooc (fzc (slE (oV 1) noP (soP (fzc (op1 negD (ooc (eC (.int 1))))))))) nilA)))
    (sqS (ifS (tst (isN false (oV 2))) (sqS (rtS (eM 2))
    skp) skp)
    (sqS (rtS (ifE (orT (tst (op2 cmpN (ooc (fzc (op2 ixD (oV 1) (ooc (fzc (op1 negD (ooc (eC (.int 1))))))))) (ooc (eC (.str ""))))) (tst (op2 cLt (ooc (fzc (opn lenD (consA (oV 1) nilA)))) (ooc (eC (.int 2)))))) (op2 binS (ooc (fzc (opn lenD (consA (oV 1) nilA)))) (ooc (eC (.int 1)))) (upc (eC .none))))
    skp))))
noncomputable def f_wrong_by : SE := bodyR 3 1 [1, 2] s_wrong_by
/-- wrong_line -/
noncomputable def s_wrong_line : SS := (sqS (ifS (notT (tst (op1 (isiD .str) (oV 0)))) (sqS (raS 0 (eV 0))
    skp) skp)
    (sqS (rtS (callE 1 f_wrong_by (consA (ooc (eV 0)) nilA)))
    skp))
noncomputable def f_wrong_line : SE := bodyR 1 1 [] s_wrong_line
/-- _law_digits -/
noncomputable def s_x_law_digits : SS := (sqS (rtS (andE (fzc (cm2 cLe cLe (ooc (eC (.int 1))) (ooc (fzc (opn lenD (consA (oV 0) nilA)))) (ooc (eC (.int 9))))) (andE (fzc (op2 cmpE (ooc (fzc (compE [1] (nmG 1) (tst (op2 (cmpIn true) (oV 1) (ooc (eC (.str "0123456789"))))) (eV 1) (anyS (oV 0))))) (ooc (fzc (lstE nilA))))) (orE (fzc (op2 cmpN (ooc (fzc (op2 ixD (oV 0) (ooc (eC (.int 0)))))) (ooc (eC (.str "0"))))) (op2 cmpE (ooc (fzc (opn lenD (consA (oV 0) nilA)))) (ooc (eC (.int 1))))))))
    skp)
noncomputable def f_x_law_digits : SE := bodyR 2 1 [] s_x_law_digits
/-- _law_read_number -/
noncomputable def s_x_law_read_number : SS := (sqS (asS 1 (smE splitD (ooc (fzc (ifE (tst (op2 cmpE (ooc (fzc (slE (oV 0) noP (soP (eC (.int 1)))))) (ooc (eC (.str "-"))))) (slE (oV 0) (soP (eC (.int 1))) noP) (upc (eV 0))))) (ooc (eC (.str "/")))))
    (sqS (ifS (orT (tst (op2 cGt (ooc (fzc (opn lenD (consA (oV 1) nilA)))) (ooc (eC (.int 2))))) (orT (tst (op2 cmpN (ooc (fzc (compE [5] (nmG 5) (notT (tst (callE 1 f_x_law_digits (consA (ooc (eV 5)) nilA)))) (eV 5) (anyS (oV 1))))) (ooc (fzc (lstE nilA))))) (andT (tst (op2 cmpE (ooc (fzc (opn lenD (consA (oV 1) nilA)))) (ooc (eC (.int 2))))) (tst (op2 cmpE (ooc (fzc (op2 ixD (oV 1) (ooc (eC (.int 1)))))) (ooc (eC (.str "0")))))))) (sqS (rtS (upc (eC .none)))
    skp) skp)
    (sqS (parS [2, 3] (consA (ooc (fzc (opn intD (consA (ooc (fzc (op2 ixD (oV 1) (ooc (eC (.int 0)))))) nilA)))) (consA (ooc (fzc (ifE (tst (op2 cmpE (ooc (fzc (opn lenD (consA (oV 1) nilA)))) (ooc (eC (.int 2))))) (opn intD (consA (ooc (fzc (op2 ixD (oV 1) (ooc (eC (.int 1)))))) nilA)) (upc (eC (.int 1)))))) nilA)))
    (sqS (asS 4 (callE 2 f_x_law_lowest (consA (ooc (fzc (ifE (tst (op2 cmpE (ooc (fzc (slE (oV 0) noP (soP (eC (.int 1)))))) (ooc (eC (.str "-"))))) (op2 binS (ooc (eC (.int 0))) (oV 2)) (upc (eV 2))))) (consA (ooc (eV 3)) nilA))))
    (sqS (rtS (ifE (tst (op2 cmpE (ooc (fzc (callE 1 f_x_law_word (consA (ooc (eV 4)) nilA)))) (oV 0))) (eM 4) (upc (eC .none))))
    skp)))))
noncomputable def f_x_law_read_number : SE := bodyR 6 1 [1, 2, 3, 4] s_x_law_read_number
/-- _law_wrong -/
noncomputable def s_x_law_wrong : SS := (sqS (parS [1, 2] (consA (ooc (fzc (smE splitD (oV 0) (ooc (eC (.str "\n")))))) (consA (ooc (eC .none)) nilA)))
    (sqS (forS (tupG 2 (consG (nmG 3) (consG (nmG 4) nilG))) (enumS (ooc (fzc (slE (oV 1) noP (soP (fzc (op1 negD (ooc (eC (.int 1)))))))))) (sqS (asS 5 (compE [6] (nmG 6) yesT (fzc (callE 1 f_x_law_read_number (consA (ooc (eV 6)) nilA))) (anyS (ooc (fzc (smE splitD (oV 4) (ooc (eC (.str " ")))))))))
    (sqS (ifS (orT (tst (op2 (cmpIn false) (ooc (eC .none)) (oV 5))) (orT (notT (tst (cm2 cLe cLe (ooc (eC (.int 2))) (ooc (fzc (opn lenD (consA (oV 5) nilA)))) (ooc (eC (.int 8)))))) (orT (tst (op2 cGt (oV 3) (ooc (eC (.int 4))))) (andT (tst (isN false (oV 2))) (tst (op2 cmpN (ooc (fzc (opn lenD (consA (oV 5) nilA)))) (oV 2))))))) (sqS (rtS (eM 3))
    skp) skp)
    (sqS (asS 2 (opn lenD (consA (oV 5) nilA)))
    skp))))
    (sqS (rtS (ifE (andT (tst (op2 cmpE (ooc (fzc (op2 ixD (oV 1) (ooc (fzc (op1 negD (ooc (eC (.int 1))))))))) (ooc (eC (.str ""))))) (tst (isN false (oV 2)))) (upc (eC .none)) (op2 binS (ooc (fzc (opn lenD (consA (oV 1) nilA)))) (ooc (eC (.int 1))))))
    skp)))
noncomputable def f_x_law_wrong : SE := bodyR 7 1 [1, 2, 3, 4, 5] s_x_law_wrong
/-- read_table -/
noncomputable def s_read_table : SS := (sqS (ifS (orT (notT (tst (op1 (isiD .str) (oV 0)))) (tst (isN false (ooc (fzc (callE 1 f_wrong_by (consA (ooc (eV 0)) nilA))))))) (sqS (raS 0 (eV 0))
    skp) skp)
    (sqS (rtS (compE [1] (nmG 1) yesT (fzc (callE 1 f_row_told (consA (ooc (eV 1)) nilA))) (anyS (ooc (fzc (slE (ooc (fzc (smE splitD (oV 0) (ooc (eC (.str "\n")))))) noP (soP (fzc (op1 negD (ooc (eC (.int 1))))))))))))
    skp))
noncomputable def f_read_table : SE := bodyR 2 1 [] s_read_table
/-- law -/
noncomputable def s_law : SS := (sqS (forS (nmG 1) (rngS1 (eC (.int 6))) (sqS (asS 2 (callE 2 f_x_law_generator (consA (ooc (eV 0)) (consA (ooc (eV 1)) nilA))))
    (sqS (forS (nmG 3) (anyS (ooc (fzc (callE 2 f_x_law_texts (consA (oV 2) (consA (ooc (fzc (callE 3 f_x_law_table (consA (oV 2) (consA (ooc (eC (.int 5))) (consA (ooc (eC (.int 6))) nilA)))))) nilA)))))) (sqS (parS [4, 5] (consA (ooc (fzc (callE 1 f_x_law_wrong (consA (ooc (eV 3)) nilA)))) (consA (ooc (eC .none)) nilA)))
    (sqS (ifS (tst (op2 cmpN (ooc (fzc (opn repD (consA (ooc (fzc (lstE (consA (ooc (fzc (callE 1 f_wrong_line (consA (ooc (eV 3)) nilA)))) (consA (ooc (fzc (callK 1 f_wrong_line ⟨0, ["text"], [0], []⟩ nilA (consA (ooc (eV 3)) nilA)))) nilA))))) nilA)))) (ooc (fzc (opn repD (consA (ooc (fzc (lstE (consA (ooc (eV 4)) (consA (ooc (eV 4)) nilA))))) nilA)))))) (sqS (rtS (upc (eC (.bool false))))
    skp) skp)
    (sqS (trS xn xsub (sqS (exS (callE 1 f_read_table (consA (ooc (eV 3)) nilA)))
    skp) 0 6 5)
    (sqS (ifS (tst (op2 cmpN (ooc (fzc (isN true (oV 5)))) (ooc (fzc (isN true (oV 4)))))) (sqS (rtS (upc (eC (.bool false))))
    skp) skp)
    skp)))))
    skp)))
    (sqS (rtS (andE (fzc (op2 cmpE (ooc (fzc (callE 1 f_wrong_line (consA (ooc (fzc (op2 binM (ooc (eC (.str "1 0\n"))) (ooc (eC (.int 6)))))) nilA)))) (ooc (eC (.int 5))))) (isN true (ooc (fzc (callE 1 f_wrong_line (consA (ooc (fzc (op2 binM (ooc (eC (.str "1 0\n"))) (ooc (eC (.int 5)))))) nilA)))))))
    skp))
noncomputable def f_law : SE := bodyR 7 1 [1, 2, 3, 4, 5, 6] s_law
noncomputable def tbl (g : G0) (F : Nat → Addr) (FD : Nat → FuncData) : Nat → Option DefI
  | 0 => some ⟨"_law_cell", ["script", "index"], F 0, FD 0, spOf g 2 f_x_law_cell, 1, []⟩
  | 1 => some ⟨"_law_generator", ["script", "index"], F 1, FD 1, spOf g 2 f_x_law_generator, 2, []⟩
  | 2 => some ⟨"_law_word", ["number"], F 2, FD 2, spOf g 1 f_x_law_word, 1, []⟩
  | 3 => some ⟨"_law_words", ["row"], F 3, FD 3, spOf g 1 f_x_law_words, 2, []⟩
  | 4 => some ⟨"_law_text", ["table"], F 4, FD 4, spOf g 1 f_x_law_text, 3, []⟩
  | 5 => some ⟨"_law_hash", ["seed", "index"], F 5, FD 5, spOf g 2 f_x_law_hash, 1, []⟩
  | 6 => some ⟨"_law_random", ["generator", "bound"], F 6, FD 6, spOf g 2 f_x_law_random, 2, []⟩
  | 7 => some ⟨"_law_pick", ["generator", "row"], F 7, FD 7, spOf g 2 f_x_law_pick, 3, []⟩
  | 8 => some ⟨"_law_texts", ["generator", "table"], F 8, FD 8, spOf g 2 f_x_law_texts, 4, []⟩
  | 9 => some ⟨"_law_lowest", ["top", "under"], F 9, FD 9, spOf g 2 f_x_law_lowest, 1, []⟩
  | 10 => some ⟨"_law_times", ["one", "other"], F 10, FD 10, spOf g 2 f_x_law_times, 2, []⟩
  | 11 => some ⟨"_law_table", ["generator", "most", "wide"], F 11, FD 11, spOf g 3 f_x_law_table, 3, []⟩
  | 12 => some ⟨"common_divisor", ["one", "other"], F 12, FD 12, spOf g 2 f_common_divisor, 1, []⟩
  | 13 => some ⟨"lowest", ["top", "under"], F 13, FD 13, spOf g 2 f_lowest, 2, []⟩
  | 14 => some ⟨"fraction_words", ["number"], F 14, FD 14, spOf g 1 f_fraction_words, 1, []⟩
  | 15 => some ⟨"is_digits", ["word"], F 15, FD 15, spOf g 1 f_is_digits, 1, []⟩
  | 16 => some ⟨"fraction_told", ["word"], F 16, FD 16, spOf g 1 f_fraction_told, 3, []⟩
  | 17 => some ⟨"row_told", ["line"], F 17, FD 17, spOf g 1 f_row_told, 4, []⟩
  | 18 => some ⟨"wrong_in", ["lines"], F 18, FD 18, spOf g 1 f_wrong_in, 5, []⟩
  | 19 => some ⟨"wrong_by", ["text"], F 19, FD 19, spOf g 1 f_wrong_by, 6, []⟩
  | 20 => some ⟨"wrong_line", ["text"], F 20, FD 20, spOf g 1 f_wrong_line, 7, [⟨0, ["text"], [0], []⟩]⟩
  | 21 => some ⟨"_law_digits", ["word"], F 21, FD 21, spOf g 1 f_x_law_digits, 1, []⟩
  | 22 => some ⟨"_law_read_number", ["word"], F 22, FD 22, spOf g 1 f_x_law_read_number, 2, []⟩
  | 23 => some ⟨"_law_wrong", ["text"], F 23, FD 23, spOf g 1 f_x_law_wrong, 3, []⟩
  | 24 => some ⟨"read_table", ["text"], F 24, FD 24, spOf g 1 f_read_table, 7, []⟩
  | 25 => some ⟨"law", ["script"], F 25, FD 25, spOf g 1 f_law, 8, []⟩
  | _ => none
noncomputable def pmv (g : G0) (F : Nat → Addr) (FD : Nat → FuncData) (lv : Nat) : Pm := ⟨g, lv, tbl g F FD, con, xn, xsub⟩
theorem sc_x_law_cell : FnScope ["script", "index"] ["script", "index"] (defScope (top 22)) := ⟨rfl, rfl, rfl, by decide +kernel, rfl, by decide +kernel, by decide +kernel⟩
theorem p_x_law_cell (g : G0) (F : Nat → Addr) (FD : Nat → FuncData) : KSs (pmv g F FD 0) ⟨["script", "index"], defScope (top 22), fun _ => true⟩ [] (defBody (top 22)) s_x_law_cell :=
  (kss_cons (ks_if (kt_lt (ko_var (i := 1) (by rfl) (by decide +kernel)) (KD.oo (KE.fz (ke_len (ka_cons (ko_var (i := 0) (by rfl) (by decide +kernel)) ka_nil (by rfl)) (by decide +kernel) (by rfl))))) (kss_cons (ks_ret (ke_ix (ko_var (i := 0) (by rfl) (by decide +kernel)) (ko_var (i := 1) (by rfl) (by decide +kernel)) (by rfl)))
    kss_nil) kss_nil)
    (kss_cons (ks_ret (ke_mod (KD.oo (KE.fz (ke_sum (ka_cons (KD.oo (KE.fz (ke_sl (ko_var (i := 0) (by rfl) (by decide +kernel)) kp_none (kp_some kd_int)))) ka_nil (by rfl)) (by decide +kernel) (by rfl)))) (KD.oo kd_int)))
    kss_nil))
theorem sc_x_law_generator : FnScope ["script", "index", "seed"] ["script", "index"] (defScope (top 23)) := ⟨rfl, rfl, rfl, by decide +kernel, rfl, by decide +kernel, by decide +kernel⟩
theorem p_x_law_generator (g : G0) (F : Nat → Addr) (FD : Nat → FuncData) : KSs (pmv g F FD 1) ⟨["script", "index", "seed"], defScope (top 23), fun _ => true⟩ [2] (defBody (top 23)) s_x_law_generator :=
  (kss_cons (ks_set (i := 2) (ke_call (pm := pmv g F FD 1) (i := 0) (by rfl) (Nat.le_of_ble_eq_true rfl) (ka_cons (KD.oo (kd_var (i := 0) (by rfl) (by decide +kernel))) (ka_cons (KD.oo (kd_var (i := 1) (by rfl) (by decide +kernel))) ka_nil (by rfl)) (by rfl)) (by decide +kernel) (by rfl)) (by rfl) (by decide +kernel) (by rfl) (by decide))
    (kss_cons (ks_ret (ke_lst (ka_cons (KD.oo (KE.fz (ke_mod (KD.oo (KE.fz (ke_int (ka_cons (KD.oo (KE.fz (ke_max (ka_cons (KD.oo (KE.fz (ke_sub (ko_var (i := 2) (by rfl) (by decide +kernel)) (KD.oo (KE.fz (ke_pow (KD.oo kd_int) (KD.oo kd_int))))))) (ka_cons (KD.oo kd_int) ka_nil (by rfl)) (by rfl)) (by decide +kernel) (by rfl)))) ka_nil (by rfl)) (by decide +kernel) (by rfl)))) (KD.oo (KE.fz (ke_pow (KD.oo (KE.fz (ke_pow (KD.oo kd_int) (KD.oo kd_int)))) (KD.oo kd_int))))))) (ka_cons (KD.oo (KE.fz (ke_mod (KD.oo (KE.fz (ke_int (ka_cons (ko_var (i := 2) (by rfl) (by decide +kernel)) ka_nil (by rfl)) (by decide +kernel) (by rfl)))) (KD.oo kd_int)))) (ka_cons (KD.oo (KE.fz (ke_mul (KD.oo kd_int) (ko_var (i := 1) (by rfl) (by decide +kernel))))) ka_nil (by rfl)) (by rfl)) (by rfl))))
    kss_nil))
theorem sc_x_law_word : FnScope ["number"] ["number"] (defScope (top 28)) := ⟨rfl, rfl, rfl, by decide +kernel, rfl, by decide +kernel, by decide +kernel⟩
theorem p_x_law_word (g : G0) (F : Nat → Addr) (FD : Nat → FuncData) : KSs (pmv g F FD 0) ⟨["number"], defScope (top 28), fun _ => true⟩ [] (defBody (top 28)) s_x_law_word :=
  (kss_cons (ks_ret (ke_if (kt_eq (KD.oo (KE.fz (ke_ix (ko_var (i := 0) (by rfl) (by decide +kernel)) (KD.oo kd_int) (by rfl)))) (KD.oo kd_int)) (ke_str (ka_cons (KD.oo (KE.fz (ke_ix (ko_var (i := 0) (by rfl) (by decide +kernel)) (KD.oo kd_int) (by rfl)))) ka_nil (by rfl)) (by decide +kernel) (by rfl)) (ke_add (KD.oo (KE.fz (ke_add (KD.oo (KE.fz (ke_str (ka_cons (KD.oo (KE.fz (ke_ix (ko_var (i := 0) (by rfl) (by decide +kernel)) (KD.oo kd_int) (by rfl)))) ka_nil (by rfl)) (by decide +kernel) (by rfl)))) (KD.oo kd_str)))) (KD.oo (KE.fz (ke_str (ka_cons (KD.oo (KE.fz (ke_ix (ko_var (i := 0) (by rfl) (by decide +kernel)) (KD.oo kd_int) (by rfl)))) ka_nil (by rfl)) (by decide +kernel) (by rfl)))))))
    kss_nil)
theorem sc_x_law_words : FnScope ["row", "number"] ["row"] (defScope (top 29)) := ⟨rfl, rfl, rfl, by decide +kernel, rfl, by decide +kernel, by decide +kernel⟩
theorem p_x_law_words (g : G0) (F : Nat → Addr) (FD : Nat → FuncData) : KSs (pmv g F FD 1) ⟨["row", "number"], defScope (top 29), fun _ => true⟩ [] (defBody (top 29)) s_x_law_words :=
  (kss_cons (ks_ret (ke_join (KD.oo kd_str) (KD.oo (KE.fz (ke_lc (own := [("number", 1)]) (ki_any (ko_var (i := 0) (by rfl) (by decide +kernel))) (kg_name (i := 1) (by rfl) (by decide +kernel)) kts_nil (KE.fz (ke_call (pm := pmv g F FD 1) (i := 2) (by rfl) (Nat.le_of_ble_eq_true rfl) (ka_cons (KD.oo (kd_var (i := 1) (by rfl) (by decide +kernel))) ka_nil (by rfl)) (by decide +kernel) (by rfl))) (by decide +kernel) (by decide)))) (by rfl) (by rfl) (by rfl)))
    kss_nil)
theorem sc_x_law_text : FnScope ["table", "row"] ["table"] (defScope (top 30)) := ⟨rfl, rfl, rfl, by decide +kernel, rfl, by decide +kernel, by decide +kernel⟩
theorem p_x_law_text (g : G0) (F : Nat → Addr) (FD : Nat → FuncData) : KSs (pmv g F FD 2) ⟨["table", "row"], defScope (top 30), fun _ => true⟩ [] (defBody (top 30)) s_x_law_text :=
  (kss_cons (ks_ret (ke_join (KD.oo kd_str) (KD.oo (KE.fz (ke_lc (own := [("row", 1)]) (ki_any (ko_var (i := 0) (by rfl) (by decide +kernel))) (kg_name (i := 1) (by rfl) (by decide +kernel)) kts_nil (KE.fz (ke_add (KD.oo (KE.fz (ke_call (pm := pmv g F FD 2) (i := 3) (by rfl) (Nat.le_of_ble_eq_true rfl) (ka_cons (KD.oo (kd_var (i := 1) (by rfl) (by decide +kernel))) ka_nil (by rfl)) (by decide +kernel) (by rfl)))) (KD.oo kd_str))) (by decide +kernel) (by decide)))) (by rfl) (by rfl) (by rfl)))
    kss_nil)
theorem sc_x_law_hash : FnScope ["seed", "index", "mixed"] ["seed", "index"] (defScope (top 20)) := ⟨rfl, rfl, rfl, by decide +kernel, rfl, by decide +kernel, by decide +kernel⟩
theorem p_x_law_hash (g : G0) (F : Nat → Addr) (FD : Nat → FuncData) : KSs (pmv g F FD 0) ⟨["seed", "index", "mixed"], defScope (top 20), fun _ => true⟩ [2] (defBody (top 20)) s_x_law_hash :=
  (kss_cons (ks_set (i := 2) (ke_mod (KD.oo (KE.fz (ke_int (ka_cons (KD.oo (KE.fz (ke_add (KD.oo (KE.fz (ke_add (KD.oo (KE.fz (ke_add (KD.oo (KE.fz (ke_mul (ko_var (i := 0) (by rfl) (by decide +kernel)) (KD.oo kd_int)))) (KD.oo (KE.fz (ke_mul (KD.oo (KE.fz (ke_mul (KD.oo kd_int) (ko_var (i := 1) (by rfl) (by decide +kernel))))) (ko_var (i := 1) (by rfl) (by decide +kernel)))))))) (KD.oo (KE.fz (ke_mul (KD.oo kd_int) (ko_var (i := 1) (by rfl) (by decide +kernel)))))))) (KD.oo kd_int)))) ka_nil (by rfl)) (by decide +kernel) (by rfl)))) (KD.oo kd_int)) (by rfl) (by decide +kernel) (by rfl) (by decide))
    (kss_cons (ks_set (i := 2) (ke_mod (KD.oo (KE.fz (ke_int (ka_cons (KD.oo (KE.fz (ke_add (KD.oo (KE.fz (ke_add (KD.oo (KE.fz (ke_mul (ko_var (i := 2) (by rfl) (by decide +kernel)) (ko_var (i := 2) (by rfl) (by decide +kernel))))) (KD.oo (KE.fz (ke_mul (KD.oo kd_int) (ko_var (i := 1) (by rfl) (by decide +kernel)))))))) (KD.oo kd_int)))) ka_nil (by rfl)) (by decide +kernel) (by rfl)))) (KD.oo kd_int)) (by rfl) (by decide +kernel) (by rfl) (by decide))
    (kss_cons (ks_ret (ke_mod (KD.oo (KE.fz (ke_int (ka_cons (KD.oo (KE.fz (ke_mul (ko_var (i := 2) (by rfl) (by decide +kernel)) (KD.oo kd_int)))) ka_nil (by rfl)) (by decide +kernel) (by rfl)))) (KD.oo kd_int)))
    kss_nil)))
theorem sc_x_law_random : FnScope ["generator", "bound", "drawn", "turn"] ["generator", "bound"] (defScope (top 21)) := ⟨rfl, rfl, rfl, by decide +kernel, rfl, by decide +kernel, by decide +kernel⟩
theorem p_x_law_random (g : G0) (F : Nat → Addr) (FD : Nat → FuncData) : KSs (pmv g F FD 1) ⟨["generator", "bound", "drawn", "turn"], defScope (top 21), fun _ => true⟩ [2, 3] (defBody (top 21)) s_x_law_random :=
  (kss_cons (ks_if (kt_gt (KD.oo (KE.fz (ke_ix (ko_var (i := 0) (by rfl) (by decide +kernel)) (KD.oo kd_int) (by rfl)))) (KD.oo kd_int)) (kss_cons (ks_set (i := 2) (ke_mod (KD.oo (KE.fz (ke_int (ka_cons (KD.oo (KE.fz (ke_ix (ko_var (i := 0) (by rfl) (by decide +kernel)) (KD.oo kd_int) (by rfl)))) ka_nil (by rfl)) (by decide +kernel) (by rfl)))) (ko_var (i := 1) (by rfl) (by decide +kernel))) (by rfl) (by decide +kernel) (by rfl) (by decide))
    (kss_cons (ks_seti (i := 0) (KE.fz (ke_fdiv (KD.oo (KE.fz (ke_ix (ko_var (i := 0) (by rfl) (by decide +kernel)) (KD.oo kd_int) (by rfl)))) (ko_var (i := 1) (by rfl) (by decide +kernel)))) (by rfl) (by decide +kernel) kd_int (by rfl))
    (kss_cons (ks_ret (ke_mv (i := 2) (by rfl) (by decide +kernel)))
    kss_nil))) kss_nil)
    (kss_cons (ks_set (i := 2) (KD.up kd_int) (by rfl) (by decide +kernel) (by rfl) (by decide))
    (kss_cons (ks_for (ki_rng1 (KE.fz (ke_add (KD.oo kd_int) (KD.oo (KE.fz (ke_fdiv (KD.oo (KE.fz (ke_bits (ko_var (i := 1) (by rfl) (by decide +kernel)) (by rfl) (by rfl)))) (KD.oo kd_int)))))) (by decide +kernel) (by rfl)) (kg_name (i := 3) (by rfl) (by decide +kernel)) (kss_cons (ks_seti (i := 0) (KE.fz (ke_add (KD.oo (KE.fz (ke_ix (ko_var (i := 0) (by rfl) (by decide +kernel)) (KD.oo kd_int) (by rfl)))) (KD.oo kd_int))) (by rfl) (by decide +kernel) kd_int (by rfl))
    (kss_cons (ks_set (i := 2) (ke_add (KD.oo (KE.fz (ke_mul (ko_var (i := 2) (by rfl) (by decide +kernel)) (KD.oo kd_int)))) (KD.oo (KE.fz (ke_call (pm := pmv g F FD 1) (i := 5) (by rfl) (Nat.le_of_ble_eq_true rfl) (ka_cons (KD.oo (KE.fz (ke_ix (ko_var (i := 0) (by rfl) (by decide +kernel)) (KD.oo kd_int) (by rfl)))) (ka_cons (KD.oo (KE.fz (ke_ix (ko_var (i := 0) (by rfl) (by decide +kernel)) (KD.oo kd_int) (by rfl)))) ka_nil (by rfl)) (by rfl)) (by decide +kernel) (by rfl))))) (by rfl) (by decide +kernel) (by rfl) (by decide))
    kss_nil)) (by decide))
    (kss_cons (ks_ret (ke_mod (KD.oo (KE.fz (ke_int (ka_cons (ko_var (i := 2) (by rfl) (by decide +kernel)) ka_nil (by rfl)) (by decide +kernel) (by rfl)))) (ko_var (i := 1) (by rfl) (by decide +kernel))))
    kss_nil))))
theorem sc_x_law_pick : FnScope ["generator", "row"] ["generator", "row"] (defScope (top 24)) := ⟨rfl, rfl, rfl, by decide +kernel, rfl, by decide +kernel, by decide +kernel⟩
theorem p_x_law_pick (g : G0) (F : Nat → Addr) (FD : Nat → FuncData) : KSs (pmv g F FD 2) ⟨["generator", "row"], defScope (top 24), fun _ => true⟩ [] (defBody (top 24)) s_x_law_pick :=
  (kss_cons (ks_ret (ke_ix (ko_var (i := 1) (by rfl) (by decide +kernel)) (KD.oo (KE.fz (ke_call (pm := pmv g F FD 2) (i := 6) (by rfl) (Nat.le_of_ble_eq_true rfl) (ka_cons (ko_var (i := 0) (by rfl) (by decide +kernel)) (ka_cons (KD.oo (KE.fz (ke_len (ka_cons (ko_var (i := 1) (by rfl) (by decide +kernel)) ka_nil (by rfl)) (by decide +kernel) (by rfl)))) ka_nil (by rfl)) (by rfl)) (by decide +kernel) (by rfl)))) (by rfl)))
    kss_nil)
theorem sc_x_law_texts : FnScope ["generator", "table", "text", "lines", "at", "spot", "cut", "found", "lists", "some", "turn", "here", "line"] ["generator", "table"] (defScope (top 34)) := ⟨rfl, rfl, rfl, by decide +kernel, rfl, by decide +kernel, by decide +kernel⟩
theorem p_x_law_texts (g : G0) (F : Nat → Addr) (FD : Nat → FuncData) : KSs (pmv g F FD 3) ⟨["generator", "table", "text", "lines", "at", "spot", "cut", "found", "lists", "some", "turn", "here", "line"], defScope (top 34), fun _ => true⟩ [2, 3, 4, 5, 6, 7, 8, 9, 10, 11] (defBody (top 34)) s_x_law_texts :=
  (kss_cons (ks_par2 (i := 2) (j := 3) (ka_cons (KD.oo (KE.fz (ke_call (pm := pmv g F FD 3) (i := 4) (by rfl) (Nat.le_of_ble_eq_true rfl) (ka_cons (KD.oo (kd_var (i := 1) (by rfl) (by decide +kernel))) ka_nil (by rfl)) (by decide +kernel) (by rfl)))) (ka_cons (KD.oo (KE.fz (ke_sl (KD.oo (KE.fz (ke_split (KD.oo (KE.fz (ke_call (pm := pmv g F FD 3) (i := 4) (by rfl) (Nat.le_of_ble_eq_true rfl) (ka_cons (KD.oo (kd_var (i := 1) (by rfl) (by decide +kernel))) ka_nil (by rfl)) (by decide +kernel) (by rfl)))) (KD.oo kd_str) (by rfl) (by rfl) (by rfl)))) kp_none (kp_some (KE.fz (ke_neg (KD.oo kd_int))))))) ka_nil (by rfl)) (by rfl)) (by rfl) (by rfl) (by decide) (by decide +kernel) (by decide +kernel) (by decide) (by intro env he; obtain ⟨⟩ := env; cases he; rfl))
    (kss_cons (ks_par3 (i := 4) (j := 5) (l := 6) (ka_cons (KD.oo (KE.fz (ke_call (pm := pmv g F FD 3) (i := 6) (by rfl) (Nat.le_of_ble_eq_true rfl) (ka_cons (ko_var (i := 0) (by rfl) (by decide +kernel)) (ka_cons (KD.oo (KE.fz (ke_len (ka_cons (ko_var (i := 3) (by rfl) (by decide +kernel)) ka_nil (by rfl)) (by decide +kernel) (by rfl)))) ka_nil (by rfl)) (by rfl)) (by decide +kernel) (by rfl)))) (ka_cons (KD.oo (KE.fz (ke_call (pm := pmv g F FD 3) (i := 6) (by rfl) (Nat.le_of_ble_eq_true rfl) (ka_cons (ko_var (i := 0) (by rfl) (by decide +kernel)) (ka_cons (KD.oo (KE.fz (ke_len (ka_cons (ko_var (i := 3) (by rfl) (by decide +kernel)) ka_nil (by rfl)) (by decide +kernel) (by rfl)))) ka_nil (by rfl)) (by rfl)) (by decide +kernel) (by rfl)))) (ka_cons (KD.oo (KE.fz (ke_call (pm := pmv g F FD 3) (i := 6) (by rfl) (Nat.le_of_ble_eq_true rfl) (ka_cons (ko_var (i := 0) (by rfl) (by decide +kernel)) (ka_cons (KD.oo (KE.fz (ke_add (KD.oo (KE.fz (ke_len (ka_cons (ko_var (i := 2) (by rfl) (by decide +kernel)) ka_nil (by rfl)) (by decide +kernel) (by rfl)))) (KD.oo kd_int)))) ka_nil (by rfl)) (by rfl)) (by decide +kernel) (by rfl)))) ka_nil (by rfl)) (by rfl)) (by rfl)) (by rfl) (by rfl) (by rfl) (by decide) (by decide) (by decide) (by decide +kernel) (by decide +kernel) (by decide +kernel) (by decide) (by intro env he; obtain ⟨⟩ := env; cases he; rfl))
    (kss_cons (ks_set (i := 7) (ke_lst (ka_cons (KD.oo (kd_var (i := 2) (by rfl) (by decide +kernel))) (ka_cons (KD.oo (KE.fz (ke_add (ko_var (i := 2) (by rfl) (by decide +kernel)) (KD.oo kd_str)))) (ka_cons (KD.oo (KE.fz (ke_sl (ko_var (i := 2) (by rfl) (by decide +kernel)) kp_none (kp_some (KE.fz (ke_neg (KD.oo kd_int))))))) (ka_cons (KD.oo kd_str) (ka_cons (KD.oo kd_str) (ka_cons (KD.oo (KE.fz (ke_add (KD.oo kd_str) (ko_var (i := 2) (by rfl) (by decide +kernel))))) (ka_cons (KD.oo (KE.fz (ke_add (ko_var (i := 2) (by rfl) (by decide +kernel)) (ko_var (i := 2) (by rfl) (by decide +kernel))))) (ka_cons (KD.oo (KE.fz (ke_mul (ko_var (i := 2) (by rfl) (by decide +kernel)) (KD.oo kd_int)))) (ka_cons (KD.oo (KE.fz (ke_sl (ko_var (i := 2) (by rfl) (by decide +kernel)) kp_none (kp_some (kd_var (i := 6) (by rfl) (by decide +kernel)))))) (ka_cons (KD.oo (KE.fz (ke_sl (ko_var (i := 2) (by rfl) (by decide +kernel)) (kp_some (kd_var (i := 6) (by rfl) (by decide +kernel))) kp_none))) ka_nil (by rfl)) (by rfl)) (by rfl)) (by rfl)) (by rfl)) (by rfl)) (by rfl)) (by rfl)) (by rfl)) (by rfl))) (by rfl) (by decide +kernel) (by rfl) (by decide))
    (kss_cons (ks_set (i := 8) (ke_lst (ka_cons (KD.oo (KE.fz (ke_add (KD.oo (KE.fz (ke_sl (ko_var (i := 3) (by rfl) (by decide +kernel)) kp_none (kp_some (kd_var (i := 4) (by rfl) (by decide +kernel)))))) (KD.oo (KE.fz (ke_sl (ko_var (i := 3) (by rfl) (by decide +kernel)) (kp_some (KE.fz (ke_add (ko_var (i := 4) (by rfl) (by decide +kernel)) (KD.oo kd_int)))) kp_none)))))) (ka_cons (KD.oo (KE.fz (ke_add (KD.oo (KE.fz (ke_add (KD.oo (KE.fz (ke_sl (ko_var (i := 3) (by rfl) (by decide +kernel)) kp_none (kp_some (kd_var (i := 4) (by rfl) (by decide +kernel)))))) (KD.oo (KE.fz (ke_sl (ko_var (i := 3) (by rfl) (by decide +kernel)) (kp_some (kd_var (i := 4) (by rfl) (by decide +kernel))) (kp_some (KE.fz (ke_add (ko_var (i := 4) (by rfl) (by decide +kernel)) (KD.oo kd_int)))))))))) (KD.oo (KE.fz (ke_sl (ko_var (i := 3) (by rfl) (by decide +kernel)) (kp_some (kd_var (i := 4) (by rfl) (by decide +kernel))) kp_none)))))) (ka_cons (KD.oo (KE.fz (ke_rev (ko_var (i := 3) (by rfl) (by decide +kernel))))) (ka_cons (KD.oo (KE.fz (ke_add (KD.oo (KE.fz (ke_add (KD.oo (KE.fz (ke_sl (ko_var (i := 3) (by rfl) (by decide +kernel)) kp_none (kp_some (kd_var (i := 4) (by rfl) (by decide +kernel)))))) (KD.oo (KE.fz (ke_lst (ka_cons (KD.oo (KE.fz (ke_ix (ko_var (i := 3) (by rfl) (by decide +kernel)) (ko_var (i := 5) (by rfl) (by decide +kernel)) (by rfl)))) ka_nil (by rfl)))))))) (KD.oo (KE.fz (ke_sl (ko_var (i := 3) (by rfl) (by decide +kernel)) (kp_some (KE.fz (ke_add (ko_var (i := 4) (by rfl) (by decide +kernel)) (KD.oo kd_int)))) kp_none)))))) ka_nil (by rfl)) (by rfl)) (by rfl)) (by rfl))) (by rfl) (by decide +kernel) (by rfl) (by decide))
    (kss_cons (ks_for (ki_any (KD.oo (KE.fz (ke_add (ko_var (i := 8) (by rfl) (by decide +kernel)) (KD.oo (KE.fz (ke_lst (ka_cons (KD.oo (KE.fz (ke_add (ko_var (i := 3) (by rfl) (by decide +kernel)) (KD.oo (KE.fz (ke_lst (ka_cons (KD.oo kd_str) ka_nil (by rfl)))))))) (ka_cons (KD.oo (KE.fz (ke_add (ko_var (i := 3) (by rfl) (by decide +kernel)) (KD.oo (KE.fz (ke_lst (ka_cons (KD.oo (KE.fz (ke_add (KD.oo (KE.fz (ke_ix (ko_var (i := 3) (by rfl) (by decide +kernel)) (KD.oo kd_int) (by rfl)))) (KD.oo kd_str)))) ka_nil (by rfl)))))))) (ka_cons (KD.oo (KE.fz (ke_add (ko_var (i := 3) (by rfl) (by decide +kernel)) (KD.oo (KE.fz (ke_lst (ka_cons (KD.oo (KE.fz (ke_join (KD.oo kd_str) (KD.oo (KE.fz (ke_mul (KD.oo (KE.fz (ke_lst (ka_cons (KD.oo kd_str) ka_nil (by rfl))))) (KD.oo (KE.fz (ke_len (ka_cons (KD.oo (KE.fz (ke_ix (ko_var (i := 1) (by rfl) (by decide +kernel)) (KD.oo kd_int) (by rfl)))) ka_nil (by rfl)) (by decide +kernel) (by rfl))))))) (by rfl) (by rfl) (by rfl)))) ka_nil (by rfl)))))))) (ka_cons (KD.oo (KE.fz (ke_add (ko_var (i := 3) (by rfl) (by decide +kernel)) (KD.oo (KE.fz (ke_lst (ka_cons (KD.oo (KE.fz (ke_add (KD.oo (KE.fz (ke_mul (KD.oo kd_str) (KD.oo (KE.fz (ke_sub (KD.oo (KE.fz (ke_len (ka_cons (KD.oo (KE.fz (ke_ix (ko_var (i := 1) (by rfl) (by decide +kernel)) (KD.oo kd_int) (by rfl)))) ka_nil (by rfl)) (by decide +kernel) (by rfl)))) (KD.oo kd_int))))))) (KD.oo kd_str)))) ka_nil (by rfl)))))))) ka_nil (by rfl)) (by rfl)) (by rfl)) (by rfl))))))))) (kg_name (i := 9) (by rfl) (by decide +kernel)) (kss_cons (ks_expr (ke_app (i := 7) (by rfl) (by decide +kernel) (KE.fz (ke_join (KD.oo kd_str) (KD.oo (KE.fz (ke_lc (own := [("line", 12)]) (ki_any (ko_var (i := 9) (by rfl) (by decide +kernel))) (kg_name (i := 12) (by rfl) (by decide +kernel)) kts_nil (KE.fz (ke_add (ko_var (i := 12) (by rfl) (by decide +kernel)) (KD.oo kd_str))) (by decide +kernel) (by decide)))) (by rfl) (by rfl) (by rfl))) (by rfl) (by rfl)) (by rfl))
    kss_nil) (by decide))
    (kss_cons (ks_for (ki_rng1 kd_int (by decide +kernel) (by rfl)) (kg_name (i := 10) (by rfl) (by decide +kernel)) (kss_cons (ks_set (i := 11) (ke_call (pm := pmv g F FD 3) (i := 6) (by rfl) (Nat.le_of_ble_eq_true rfl) (ka_cons (ko_var (i := 0) (by rfl) (by decide +kernel)) (ka_cons (KD.oo (KE.fz (ke_len (ka_cons (ko_var (i := 2) (by rfl) (by decide +kernel)) ka_nil (by rfl)) (by decide +kernel) (by rfl)))) ka_nil (by rfl)) (by rfl)) (by decide +kernel) (by rfl)) (by rfl) (by decide +kernel) (by rfl) (by decide))
    (kss_cons (ks_expr (ke_app (i := 7) (by rfl) (by decide +kernel) (KE.fz (ke_add (KD.oo (KE.fz (ke_add (KD.oo (KE.fz (ke_sl (ko_var (i := 2) (by rfl) (by decide +kernel)) kp_none (kp_some (kd_var (i := 11) (by rfl) (by decide +kernel)))))) (KD.oo (KE.fz (ke_call (pm := pmv g F FD 3) (i := 7) (by rfl) (Nat.le_of_ble_eq_true rfl) (ka_cons (ko_var (i := 0) (by rfl) (by decide +kernel)) (ka_cons (KD.oo (KE.fz (ke_lst (ka_cons (KD.oo kd_str) (ka_cons (KD.oo kd_str) (ka_cons (KD.oo kd_str) (ka_cons (KD.oo kd_str) (ka_cons (KD.oo kd_str) (ka_cons (KD.oo kd_str) (ka_cons (KD.oo kd_str) ka_nil (by rfl)) (by rfl)) (by rfl)) (by rfl)) (by rfl)) (by rfl)) (by rfl))))) ka_nil (by rfl)) (by rfl)) (by decide +kernel) (by rfl))))))) (KD.oo (KE.fz (ke_sl (ko_var (i := 2) (by rfl) (by decide +kernel)) (kp_some (KE.fz (ke_add (ko_var (i := 11) (by rfl) (by decide +kernel)) (KD.oo (KE.fz (ke_call (pm := pmv g F FD 3) (i := 6) (by rfl) (Nat.le_of_ble_eq_true rfl) (ka_cons (ko_var (i := 0) (by rfl) (by decide +kernel)) (ka_cons (KD.oo kd_int) ka_nil (by rfl)) (by rfl)) (by decide +kernel) (by rfl))))))) kp_none))))) (by rfl) (by rfl)) (by rfl))
    kss_nil)) (by decide))
    (kss_cons (ks_ret (ke_mv (i := 7) (by rfl) (by decide +kernel)))
    kss_nil)))))))
theorem sc_x_law_lowest : FnScope ["top", "under", "one", "other"] ["top", "under"] (defScope (top 25)) := ⟨rfl, rfl, rfl, by decide +kernel, rfl, by decide +kernel, by decide +kernel⟩
theorem p_x_law_lowest (g : G0) (F : Nat → Addr) (FD : Nat → FuncData) : KSs (pmv g F FD 0) ⟨["top", "under", "one", "other"], defScope (top 25), fun _ => true⟩ [2, 3] (defBody (top 25)) s_x_law_lowest :=
  (kss_cons (ks_par2 (i := 2) (j := 3) (ka_cons (KD.oo (KE.fz (ke_abs (ka_cons (ko_var (i := 0) (by rfl) (by decide +kernel)) ka_nil (by rfl)) (by decide +kernel) (by rfl)))) (ka_cons (KD.oo (KE.fz (ke_abs (ka_cons (ko_var (i := 1) (by rfl) (by decide +kernel)) ka_nil (by rfl)) (by decide +kernel) (by rfl)))) ka_nil (by rfl)) (by rfl)) (by rfl) (by rfl) (by decide) (by decide +kernel) (by decide +kernel) (by decide) (by intro env he; obtain ⟨⟩ := env; cases he; rfl))
    (kss_cons (ks_while (kt_gt (ko_var (i := 3) (by rfl) (by decide +kernel)) (KD.oo kd_int)) (kss_cons (ks_par2 (i := 2) (j := 3) (ka_cons (KD.oo (kd_var (i := 3) (by rfl) (by decide +kernel))) (ka_cons (KD.oo (KE.fz (ke_sub (ko_var (i := 2) (by rfl) (by decide +kernel)) (KD.oo (KE.fz (ke_mul (KD.oo (KE.fz (ke_fdiv (ko_var (i := 2) (by rfl) (by decide +kernel)) (ko_var (i := 3) (by rfl) (by decide +kernel))))) (ko_var (i := 3) (by rfl) (by decide +kernel)))))))) ka_nil (by rfl)) (by rfl)) (by rfl) (by rfl) (by decide) (by decide +kernel) (by decide +kernel) (by decide) (by intro env he; obtain ⟨⟩ := env; cases he; rfl))
    kss_nil))
    (kss_cons (ks_ret (ke_if (kt_gt (ko_var (i := 1) (by rfl) (by decide +kernel)) (KD.oo kd_int)) (KD.up (kd_tup (ka_cons (KD.oo (KE.fz (ke_fdiv (ko_var (i := 0) (by rfl) (by decide +kernel)) (ko_var (i := 2) (by rfl) (by decide +kernel))))) (ka_cons (KD.oo (KE.fz (ke_fdiv (ko_var (i := 1) (by rfl) (by decide +kernel)) (ko_var (i := 2) (by rfl) (by decide +kernel))))) ka_nil (by rfl)) (by rfl)))) (KD.up (kd_tup (ka_cons (KD.oo (KE.fz (ke_sub (KD.oo kd_int) (KD.oo (KE.fz (ke_fdiv (ko_var (i := 0) (by rfl) (by decide +kernel)) (ko_var (i := 2) (by rfl) (by decide +kernel)))))))) (ka_cons (KD.oo (KE.fz (ke_sub (KD.oo kd_int) (KD.oo (KE.fz (ke_fdiv (ko_var (i := 1) (by rfl) (by decide +kernel)) (ko_var (i := 2) (by rfl) (by decide +kernel)))))))) ka_nil (by rfl)) (by rfl))))))
    kss_nil)))
theorem sc_x_law_times : FnScope ["one", "other"] ["one", "other"] (defScope (top 26)) := ⟨rfl, rfl, rfl, by decide +kernel, rfl, by decide +kernel, by decide +kernel⟩
theorem p_x_law_times (g : G0) (F : Nat → Addr) (FD : Nat → FuncData) : KSs (pmv g F FD 1) ⟨["one", "other"], defScope (top 26), fun _ => true⟩ [] (defBody (top 26)) s_x_law_times :=
  (kss_cons (ks_ret (ke_call (pm := pmv g F FD 1) (i := 9) (by rfl) (Nat.le_of_ble_eq_true rfl) (ka_cons (KD.oo (KE.fz (ke_mul (KD.oo (KE.fz (ke_ix (ko_var (i := 0) (by rfl) (by decide +kernel)) (KD.oo kd_int) (by rfl)))) (KD.oo (KE.fz (ke_ix (ko_var (i := 1) (by rfl) (by decide +kernel)) (KD.oo kd_int) (by rfl))))))) (ka_cons (KD.oo (KE.fz (ke_mul (KD.oo (KE.fz (ke_ix (ko_var (i := 0) (by rfl) (by decide +kernel)) (KD.oo kd_int) (by rfl)))) (KD.oo (KE.fz (ke_ix (ko_var (i := 1) (by rfl) (by decide +kernel)) (KD.oo kd_int) (by rfl))))))) ka_nil (by rfl)) (by rfl)) (by decide +kernel) (by rfl)))
    kss_nil)
theorem sc_x_law_table : FnScope ["generator", "most", "wide", "high", "many", "table", "early", "late", "row", "place"] ["generator", "most", "wide"] (defScope (top 27)) := ⟨rfl, rfl, rfl, by decide +kernel, rfl, by decide +kernel, by decide +kernel⟩
theorem p_x_law_table (g : G0) (F : Nat → Addr) (FD : Nat → FuncData) : KSs (pmv g F FD 2) ⟨["generator", "most", "wide", "high", "many", "table", "early", "late", "row", "place"], defScope (top 27), fun _ => true⟩ [3, 4, 5, 6, 7, 8] (defBody (top 27)) s_x_law_table :=
  (kss_cons (ks_tgt (kd_tup (ka_cons (KD.oo (KE.fz (ke_add (KD.oo kd_int) (KD.oo (KE.fz (ke_call (pm := pmv g F FD 2) (i := 6) (by rfl) (Nat.le_of_ble_eq_true rfl) (ka_cons (ko_var (i := 0) (by rfl) (by decide +kernel)) (ka_cons (KD.oo (kd_var (i := 1) (by rfl) (by decide +kernel))) ka_nil (by rfl)) (by rfl)) (by decide +kernel) (by rfl))))))) (ka_cons (KD.oo (KE.fz (ke_add (KD.oo kd_int) (KD.oo (KE.fz (ke_call (pm := pmv g F FD 2) (i := 6) (by rfl) (Nat.le_of_ble_eq_true rfl) (ka_cons (ko_var (i := 0) (by rfl) (by decide +kernel)) (ka_cons (KD.oo (KE.fz (ke_sub (ko_var (i := 2) (by rfl) (by decide +kernel)) (KD.oo kd_int)))) ka_nil (by rfl)) (by rfl)) (by decide +kernel) (by rfl))))))) ka_nil (by rfl)) (by rfl))) (kg_tup (kgs_cons (kg_name (i := 3) (by rfl) (by decide +kernel)) (kgs_cons (kg_name (i := 4) (by rfl) (by decide +kernel)) kgs_nil (by rfl)) (by rfl)) (by rfl)) (by rfl) (by decide) (by intro env he; obtain ⟨⟩ := env; cases he; rfl))
    (kss_cons (ks_setLcW (i := 5) (own := [("row", 8)]) (ki_rng1 (kd_var (i := 3) (by rfl) (by decide +kernel)) (by decide +kernel) (by rfl)) (kg_name (i := 8) (by rfl) (by decide +kernel)) kts_nil (ke_lc (own := [("place", 9)]) (ki_rng1 (kd_var (i := 4) (by rfl) (by decide +kernel)) (by decide +kernel) (by rfl)) (kg_name (i := 9) (by rfl) (by decide +kernel)) kts_nil (KE.fz (ke_call (pm := pmv g F FD 2) (i := 9) (by rfl) (Nat.le_of_ble_eq_true rfl) (ka_cons (KD.oo (KE.fz (ke_sub (KD.oo (KE.fz (ke_call (pm := pmv g F FD 2) (i := 6) (by rfl) (Nat.le_of_ble_eq_true rfl) (ka_cons (ko_var (i := 0) (by rfl) (by decide +kernel)) (ka_cons (KD.oo kd_int) ka_nil (by rfl)) (by rfl)) (by decide +kernel) (by rfl)))) (KD.oo kd_int)))) (ka_cons (KD.oo (KE.fz (ke_add (KD.oo kd_int) (KD.oo (KE.fz (ke_int (ka_cons (KD.oo (KE.fz (ke_eq (KD.oo (KE.fz (ke_call (pm := pmv g F FD 2) (i := 6) (by rfl) (Nat.le_of_ble_eq_true rfl) (ka_cons (ko_var (i := 0) (by rfl) (by decide +kernel)) (ka_cons (KD.oo kd_int) ka_nil (by rfl)) (by rfl)) (by decide +kernel) (by rfl)))) (KD.oo kd_int)))) ka_nil (by rfl)) (by decide +kernel) (by rfl))))))) ka_nil (by rfl)) (by rfl)) (by decide +kernel) (by rfl))) (by decide +kernel) (by decide)) (by decide +kernel) (by decide) (by rfl) (by decide +kernel) (by decide) (by rfl) (by decide +kernel) (by rfl))
    (kss_cons (ks_if (kt_eq (KD.oo (KE.fz (ke_call (pm := pmv g F FD 2) (i := 6) (by rfl) (Nat.le_of_ble_eq_true rfl) (ka_cons (ko_var (i := 0) (by rfl) (by decide +kernel)) (ka_cons (KD.oo kd_int) ka_nil (by rfl)) (by rfl)) (by decide +kernel) (by rfl)))) (KD.oo kd_int)) (kss_cons (ks_par2 (i := 6) (j := 7) (ka_cons (KD.oo (KE.fz (ke_call (pm := pmv g F FD 2) (i := 6) (by rfl) (Nat.le_of_ble_eq_true rfl) (ka_cons (ko_var (i := 0) (by rfl) (by decide +kernel)) (ka_cons (KD.oo (kd_var (i := 4) (by rfl) (by decide +kernel))) ka_nil (by rfl)) (by rfl)) (by decide +kernel) (by rfl)))) (ka_cons (KD.oo (KE.fz (ke_call (pm := pmv g F FD 2) (i := 6) (by rfl) (Nat.le_of_ble_eq_true rfl) (ka_cons (ko_var (i := 0) (by rfl) (by decide +kernel)) (ka_cons (KD.oo (kd_var (i := 4) (by rfl) (by decide +kernel))) ka_nil (by rfl)) (by rfl)) (by decide +kernel) (by rfl)))) ka_nil (by rfl)) (by rfl)) (by rfl) (by rfl) (by decide) (by decide +kernel) (by decide +kernel) (by decide) (by intro env he; obtain ⟨⟩ := env; cases he; rfl))
    (kss_cons (ks_forOw (us := []) (i := 8) (j := 5) (kss_cons (ks_seti (i := 8) (KE.fz (ke_if (kt_ne (ko_var (i := 6) (by rfl) (by decide +kernel)) (ko_var (i := 7) (by rfl) (by decide +kernel))) (ke_call (pm := pmv g F FD 2) (i := 10) (by rfl) (Nat.le_of_ble_eq_true rfl) (ka_cons (KD.oo (KE.fz (ke_ix (ko_var (i := 8) (by rfl) (by decide +kernel)) (ko_var (i := 6) (by rfl) (by decide +kernel)) (by rfl)))) (ka_cons (KD.oo (kd_tup (ka_cons (KD.oo (KE.fz (ke_sub (KD.oo kd_int) (KD.oo kd_int)))) (ka_cons (KD.oo kd_int) ka_nil (by rfl)) (by rfl)))) ka_nil (by rfl)) (by rfl)) (by decide +kernel) (by rfl)) (ke_ix (ko_var (i := 8) (by rfl) (by decide +kernel)) (ko_var (i := 7) (by rfl) (by decide +kernel)) (by rfl)))) (by rfl) (by decide +kernel) (kd_var (i := 7) (by rfl) (by decide +kernel)) (by rfl))
    kss_nil) (by rfl) (by decide +kernel) (by rfl) (by decide +kernel) (by decide) (by decide) (by decide) (by decide))
    kss_nil)) kss_nil)
    (kss_cons (ks_ret (ke_mv (i := 5) (by rfl) (by decide +kernel)))
    kss_nil))))
theorem sc_common_divisor : FnScope ["one", "other"] ["one", "other"] (defScope (top 4)) := ⟨rfl, rfl, rfl, by decide +kernel, rfl, by decide +kernel, by decide +kernel⟩
theorem p_common_divisor (g : G0) (F : Nat → Addr) (FD : Nat → FuncData) : KSs (pmv g F FD 0) ⟨["one", "other"], defScope (top 4), fun _ => true⟩ [0, 1] (defBody (top 4)) s_common_divisor :=
  (kss_cons (ks_par2 (i := 0) (j := 1) (ka_cons (KD.oo (KE.fz (ke_abs (ka_cons (ko_var (i := 0) (by rfl) (by decide +kernel)) ka_nil (by rfl)) (by decide +kernel) (by rfl)))) (ka_cons (KD.oo (KE.fz (ke_abs (ka_cons (ko_var (i := 1) (by rfl) (by decide +kernel)) ka_nil (by rfl)) (by decide +kernel) (by rfl)))) ka_nil (by rfl)) (by rfl)) (by rfl) (by rfl) (by decide) (by decide +kernel) (by decide +kernel) (by decide) (by intro env he; obtain ⟨⟩ := env; cases he; rfl))
    (kss_cons (ks_while (kt_gt (ko_var (i := 1) (by rfl) (by decide +kernel)) (KD.oo kd_int)) (kss_cons (ks_par2 (i := 0) (j := 1) (ka_cons (KD.oo (kd_var (i := 1) (by rfl) (by decide +kernel))) (ka_cons (KD.oo (KE.fz (ke_mod (ko_var (i := 0) (by rfl) (by decide +kernel)) (ko_var (i := 1) (by rfl) (by decide +kernel))))) ka_nil (by rfl)) (by rfl)) (by rfl) (by rfl) (by decide) (by decide +kernel) (by decide +kernel) (by decide) (by intro env he; obtain ⟨⟩ := env; cases he; rfl))
    kss_nil))
    (kss_cons (ks_ret (ke_mv (i := 0) (by rfl) (by decide +kernel)))
    kss_nil)))
theorem sc_lowest : FnScope ["top", "under", "common"] ["top", "under"] (defScope (top 5)) := ⟨rfl, rfl, rfl, by decide +kernel, rfl, by decide +kernel, by decide +kernel⟩
theorem p_lowest (g : G0) (F : Nat → Addr) (FD : Nat → FuncData) : KSs (pmv g F FD 1) ⟨["top", "under", "common"], defScope (top 5), fun _ => true⟩ [0, 1, 2] (defBody (top 5)) s_lowest :=
  (kss_cons (ks_if (kt_lt (ko_var (i := 1) (by rfl) (by decide +kernel)) (KD.oo kd_int)) (kss_cons (ks_par2 (i := 0) (j := 1) (ka_cons (KD.oo (KE.fz (ke_neg (ko_var (i := 0) (by rfl) (by decide +kernel))))) (ka_cons (KD.oo (KE.fz (ke_neg (ko_var (i := 1) (by rfl) (by decide +kernel))))) ka_nil (by rfl)) (by rfl)) (by rfl) (by rfl) (by decide) (by decide +kernel) (by decide +kernel) (by decide) (by intro env he; obtain ⟨⟩ := env; cases he; rfl))
    kss_nil) kss_nil)
    (kss_cons (ks_set (i := 2) (ke_call (pm := pmv g F FD 1) (i := 12) (by rfl) (Nat.le_of_ble_eq_true rfl) (ka_cons (KD.oo (kd_var (i := 0) (by rfl) (by decide +kernel))) (ka_cons (KD.oo (kd_var (i := 1) (by rfl) (by decide +kernel))) ka_nil (by rfl)) (by rfl)) (by decide +kernel) (by rfl)) (by rfl) (by decide +kernel) (by rfl) (by decide))
    (kss_cons (ks_ret (KD.up (kd_tup (ka_cons (KD.oo (KE.fz (ke_fdiv (ko_var (i := 0) (by rfl) (by decide +kernel)) (ko_var (i := 2) (by rfl) (by decide +kernel))))) (ka_cons (KD.oo (KE.fz (ke_fdiv (ko_var (i := 1) (by rfl) (by decide +kernel)) (ko_var (i := 2) (by rfl) (by decide +kernel))))) ka_nil (by rfl)) (by rfl)))))
    kss_nil)))
theorem sc_fraction_words : FnScope ["number"] ["number"] (defScope (top 11)) := ⟨rfl, rfl, rfl, by decide +kernel, rfl, by decide +kernel, by decide +kernel⟩
theorem p_fraction_words (g : G0) (F : Nat → Addr) (FD : Nat → FuncData) : KSs (pmv g F FD 0) ⟨["number"], defScope (top 11), fun _ => true⟩ [] (defBody (top 11)) s_fraction_words :=
  (kss_cons (ks_ret (ke_if (kt_eq (KD.oo (KE.fz (ke_ix (ko_var (i := 0) (by rfl) (by decide +kernel)) (KD.oo kd_int) (by rfl)))) (KD.oo kd_int)) (ke_str (ka_cons (KD.oo (KE.fz (ke_ix (ko_var (i := 0) (by rfl) (by decide +kernel)) (KD.oo kd_int) (by rfl)))) ka_nil (by rfl)) (by decide +kernel) (by rfl)) (ke_add (KD.oo (KE.fz (ke_add (KD.oo (KE.fz (ke_str (ka_cons (KD.oo (KE.fz (ke_ix (ko_var (i := 0) (by rfl) (by decide +kernel)) (KD.oo kd_int) (by rfl)))) ka_nil (by rfl)) (by decide +kernel) (by rfl)))) (KD.oo kd_str)))) (KD.oo (KE.fz (ke_str (ka_cons (KD.oo (KE.fz (ke_ix (ko_var (i := 0) (by rfl) (by decide +kernel)) (KD.oo kd_int) (by rfl)))) ka_nil (by rfl)) (by decide +kernel) (by rfl)))))))
    kss_nil)
theorem sc_is_digits : FnScope ["word", "sign"] ["word"] (defScope (top 12)) := ⟨rfl, rfl, rfl, by decide +kernel, rfl, by decide +kernel, by decide +kernel⟩
theorem p_is_digits (g : G0) (F : Nat → Addr) (FD : Nat → FuncData) : KSs (pmv g F FD 0) ⟨["word", "sign"], defScope (top 12), fun _ => true⟩ [] (defBody (top 12)) s_is_digits :=
  (kss_cons (ks_if (kt_w (kw_or (kt_not (kt_lele (KD.oo kd_int) (KD.oo (KE.fz (ke_len (ka_cons (ko_var (i := 0) (by rfl) (by decide +kernel)) ka_nil (by rfl)) (by decide +kernel) (by rfl)))) (KD.oo (kd_con (pm := pmv g F FD 0) (i := 3) (by rfl) (by decide +kernel))))) (kw_or1 (kt_not (kt_val (ke_all (ka_cons (KD.oo (KE.fz (ke_lc (own := [("sign", 1)]) (ki_any (ko_var (i := 0) (by rfl) (by decide +kernel))) (kg_name (i := 1) (by rfl) (by decide +kernel)) kts_nil (KE.fz (ke_in (ko_var (i := 1) (by rfl) (by decide +kernel)) (KD.oo kd_str) (by rfl))) (by decide +kernel) (by decide)))) ka_nil (by rfl)) (by decide +kernel) (by rfl)) (by rfl)))))) (kss_cons (ks_ret (KD.up kd_bl))
    kss_nil) kss_nil)
    (kss_cons (ks_ret (ke_or (KE.fz (ke_ne (KD.oo (KE.fz (ke_ix (ko_var (i := 0) (by rfl) (by decide +kernel)) (KD.oo kd_int) (by rfl)))) (KD.oo kd_str))) (ke_one (ke_eq (KD.oo (KE.fz (ke_len (ka_cons (ko_var (i := 0) (by rfl) (by decide +kernel)) ka_nil (by rfl)) (by decide +kernel) (by rfl)))) (KD.oo kd_int)))))
    kss_nil))
theorem sc_fraction_told : FnScope ["word", "parts", "under", "found", "part"] ["word"] (defScope (top 13)) := ⟨rfl, rfl, rfl, by decide +kernel, rfl, by decide +kernel, by decide +kernel⟩
theorem p_fraction_told (g : G0) (F : Nat → Addr) (FD : Nat → FuncData) : KSs (pmv g F FD 2) ⟨["word", "parts", "under", "found", "part"], defScope (top 13), fun _ => true⟩ [1, 2, 3] (defBody (top 13)) s_fraction_told :=
  (kss_cons (ks_set (i := 1) (ke_split (KD.oo (KE.fz (ke_if (kt_eq (KD.oo (KE.fz (ke_sl (ko_var (i := 0) (by rfl) (by decide +kernel)) kp_none (kp_some kd_int)))) (KD.oo kd_str)) (ke_sl (ko_var (i := 0) (by rfl) (by decide +kernel)) (kp_some kd_int) kp_none) (KD.up (kd_var (i := 0) (by rfl) (by decide +kernel)))))) (KD.oo kd_str) (by rfl) (by rfl) (by rfl)) (by rfl) (by decide +kernel) (by rfl) (by decide))
    (kss_cons (ks_if (kt_w (kw_or (kt_gt (KD.oo (KE.fz (ke_len (ka_cons (ko_var (i := 1) (by rfl) (by decide +kernel)) ka_nil (by rfl)) (by decide +kernel) (by rfl)))) (KD.oo kd_int)) (kw_or (kt_not (kt_val (ke_all (ka_cons (KD.oo (KE.fz (ke_lc (own := [("part", 4)]) (ki_any (ko_var (i := 1) (by rfl) (by decide +kernel))) (kg_name (i := 4) (by rfl) (by decide +kernel)) kts_nil (KE.fz (ke_call (pm := pmv g F FD 2) (i := 15) (by rfl) (Nat.le_of_ble_eq_true rfl) (ka_cons (KD.oo (kd_var (i := 4) (by rfl) (by decide +kernel))) ka_nil (by rfl)) (by decide +kernel) (by rfl))) (by decide +kernel) (by decide)))) ka_nil (by rfl)) (by decide +kernel) (by rfl)) (by rfl))) (kw_or1 (kt_w (kw_and (kt_eq (KD.oo (KE.fz (ke_ix (ko_var (i := 1) (by rfl) (by decide +kernel)) (KD.oo (KE.fz (ke_neg (KD.oo kd_int)))) (by rfl)))) (KD.oo kd_str)) (kw_and1 (kt_eq (KD.oo (KE.fz (ke_len (ka_cons (ko_var (i := 1) (by rfl) (by decide +kernel)) ka_nil (by rfl)) (by decide +kernel) (by rfl)))) (KD.oo kd_int))))))))) (kss_cons (ks_ret (KD.up kd_non))
    kss_nil) kss_nil)
    (kss_cons (ks_set (i := 2) (ke_if (kt_eq (KD.oo (KE.fz (ke_len (ka_cons (ko_var (i := 1) (by rfl) (by decide +kernel)) ka_nil (by rfl)) (by decide +kernel) (by rfl)))) (KD.oo kd_int)) (ke_int (ka_cons (KD.oo (KE.fz (ke_ix (ko_var (i := 1) (by rfl) (by decide +kernel)) (KD.oo kd_int) (by rfl)))) ka_nil (by rfl)) (by decide +kernel) (by rfl)) (KD.up kd_int)) (by rfl) (by decide +kernel) (by rfl) (by decide))
    (kss_cons (ks_set (i := 3) (ke_call (pm := pmv g F FD 2) (i := 13) (by rfl) (Nat.le_of_ble_eq_true rfl) (ka_cons (KD.oo (KE.fz (ke_if (kt_eq (KD.oo (KE.fz (ke_sl (ko_var (i := 0) (by rfl) (by decide +kernel)) kp_none (kp_some kd_int)))) (KD.oo kd_str)) (ke_neg (KD.oo (KE.fz (ke_int (ka_cons (KD.oo (KE.fz (ke_ix (ko_var (i := 1) (by rfl) (by decide +kernel)) (KD.oo kd_int) (by rfl)))) ka_nil (by rfl)) (by decide +kernel) (by rfl))))) (ke_int (ka_cons (KD.oo (KE.fz (ke_ix (ko_var (i := 1) (by rfl) (by decide +kernel)) (KD.oo kd_int) (by rfl)))) ka_nil (by rfl)) (by decide +kernel) (by rfl))))) (ka_cons (KD.oo (kd_var (i := 2) (by rfl) (by decide +kernel))) ka_nil (by rfl)) (by rfl)) (by decide +kernel) (by rfl)) (by rfl) (by decide +kernel) (by rfl) (by decide))
    (kss_cons (ks_ret (ke_if (kt_eq (KD.oo (KE.fz (ke_call (pm := pmv g F FD 2) (i := 14) (by rfl) (Nat.le_of_ble_eq_true rfl) (ka_cons (KD.oo (kd_var (i := 3) (by rfl) (by decide +kernel))) ka_nil (by rfl)) (by decide +kernel) (by rfl)))) (ko_var (i := 0) (by rfl) (by decide +kernel))) (ke_mv (i := 3) (by rfl) (by decide +kernel)) (KD.up kd_non)))
    kss_nil)))))
theorem sc_row_told : FnScope ["line", "found", "word"] ["line"] (defScope (top 14)) := ⟨rfl, rfl, rfl, by decide +kernel, rfl, by decide +kernel, by decide +kernel⟩
theorem p_row_told (g : G0) (F : Nat → Addr) (FD : Nat → FuncData) : KSs (pmv g F FD 3) ⟨["line", "found", "word"], defScope (top 14), fun _ => true⟩ [1] (defBody (top 14)) s_row_told :=
  (kss_cons (ks_setLc (i := 1) (own := [("word", 2)]) (ki_any (KD.oo (KE.fz (ke_split (ko_var (i := 0) (by rfl) (by decide +kernel)) (KD.oo kd_str) (by rfl) (by rfl) (by rfl))))) (kg_name (i := 2) (by rfl) (by decide +kernel)) kts_nil (KE.fz (ke_call (pm := pmv g F FD 3) (i := 16) (by rfl) (Nat.le_of_ble_eq_true rfl) (ka_cons (KD.oo (kd_var (i := 2) (by rfl) (by decide +kernel))) ka_nil (by rfl)) (by decide +kernel) (by rfl))) (by decide +kernel) (by decide) (by rfl) (by decide +kernel) (by decide) (by rfl) (by decide +kernel) (by rfl))
    (kss_cons (ks_ret (ke_if (kt_w (kw_or (kt_in (KD.oo kd_non) (ko_var (i := 1) (by rfl) (by decide +kernel)) (by rfl)) (kw_or1 (kt_gt (KD.oo (KE.fz (ke_len (ka_cons (ko_var (i := 1) (by rfl) (by decide +kernel)) ka_nil (by rfl)) (by decide +kernel) (by rfl)))) (KD.oo (kd_con (pm := pmv g F FD 3) (i := 1) (by rfl) (by decide +kernel))))))) (KD.up kd_non) (ke_mv (i := 1) (by rfl) (by decide +kernel))))
    kss_nil))
theorem sc_wrong_in : FnScope ["lines", "wide", "number", "line", "row"] ["lines"] (defScope (top 15)) := ⟨rfl, rfl, rfl, by decide +kernel, rfl, by decide +kernel, by decide +kernel⟩
theorem p_wrong_in (g : G0) (F : Nat → Addr) (FD : Nat → FuncData) : KSs (pmv g F FD 4) ⟨["lines", "wide", "number", "line", "row"], defScope (top 15), fun _ => true⟩ [1, 2, 3, 4] (defBody (top 15)) s_wrong_in :=
  (kss_cons (ks_set (i := 1) (KD.up kd_int) (by rfl) (by decide +kernel) (by rfl) (by decide))
    (kss_cons (ks_for (ki_enum (KD.oo (kd_var (i := 0) (by rfl) (by decide +kernel))) (by decide +kernel) (by rfl)) (kg_tup (kgs_cons (kg_name (i := 2) (by rfl) (by decide +kernel)) (kgs_cons (kg_name (i := 3) (by rfl) (by decide +kernel)) kgs_nil (by rfl)) (by rfl)) (by rfl)) (kss_cons (ks_set (i := 4) (ke_call (pm := pmv g F FD 4) (i := 17) (by rfl) (Nat.le_of_ble_eq_true rfl) (ka_cons (KD.oo (kd_var (i := 3) (by rfl) (by decide +kernel))) ka_nil (by rfl)) (by decide +kernel) (by rfl)) (by rfl) (by decide +kernel) (by rfl) (by decide))
    (kss_cons (ks_if (kt_w (kw_or (kt_isN (ko_var (i := 4) (by rfl) (by decide +kernel))) (kw_or (kt_lt (KD.oo (KE.fz (ke_len (ka_cons (ko_var (i := 4) (by rfl) (by decide +kernel)) ka_nil (by rfl)) (by decide +kernel) (by rfl)))) (KD.oo kd_int)) (kw_or (kt_eq (ko_var (i := 2) (by rfl) (by decide +kernel)) (KD.oo (kd_con (pm := pmv g F FD 4) (i := 0) (by rfl) (by decide +kernel)))) (kw_or1 (kt_w (kw_and (kt_gt (ko_var (i := 2) (by rfl) (by decide +kernel)) (KD.oo kd_int)) (kw_and1 (kt_ne (KD.oo (KE.fz (ke_len (ka_cons (ko_var (i := 4) (by rfl) (by decide +kernel)) ka_nil (by rfl)) (by decide +kernel) (by rfl)))) (ko_var (i := 1) (by rfl) (by decide +kernel))))))))))) (kss_cons (ks_ret (ke_mv (i := 2) (by rfl) (by decide +kernel)))
    kss_nil) kss_nil)
    (kss_cons (ks_set (i := 1) (ke_len (ka_cons (ko_var (i := 4) (by rfl) (by decide +kernel)) ka_nil (by rfl)) (by decide +kernel) (by rfl)) (by rfl) (by decide +kernel) (by rfl) (by decide))
    kss_nil))) (by decide))
    (kss_cons (ks_ret (KD.up kd_non))
    kss_nil)))
theorem sc_wrong_by : FnScope ["text", "lines", "found"] ["text"] (defScope (top 16)) := ⟨rfl, rfl, rfl, by decide +kernel, rfl, by decide +kernel, by decide +kernel⟩
theorem p_wrong_by (g : G0) (F : Nat → Addr) (FD : Nat → FuncData) : KSs (pmv g F FD 5) ⟨["text", "lines", "found"], defScope (top 16), fun _ => true⟩ [1, 2] (defBody (top 16)) s_wrong_by :=
  (kss_cons (ks_set (i := 1) (ke_split (ko_var (i := 0) (by rfl) (by decide +kernel)) (KD.oo (kd_con (pm := pmv g F FD 5) (i := 2) (by rfl) (by decide +kernel))) (by rfl) (by rfl) (by rfl)) (by rfl) (by decide +kernel) (by rfl) (by decide))
    (kss_cons (ks_set (i := 2) (ke_call (pm := pmv g F FD 5) (i := 18) (by rfl) (Nat.le_of_ble_eq_true rfl) (ka_cons (KD.oo (KE.fz (ke_sl (ko_var (i := 1) (by rfl) (by decide +kernel)) kp_none (kp_some (KE.fz (ke_neg (KD.oo kd_int))))))) ka_nil (by rfl)) (by decide +kernel) (by rfl)) (by rfl) (by decide +kernel) (by rfl) (by decide))
    (kss_cons (ks_if (kt_notN (ko_var (i := 2) (by rfl) (by decide +kernel))) (kss_cons (ks_ret (ke_mv (i := 2) (by rfl) (by decide +kernel)))
    kss_nil) kss_nil)
    (kss_cons (ks_ret (ke_if (kt_w (kw_or (kt_ne (KD.oo (KE.fz (ke_ix (ko_var (i := 1) (by rfl) (by decide +kernel)) (KD.oo (KE.fz (ke_neg (KD.oo kd_int)))) (by rfl)))) (KD.oo kd_str)) (kw_or1 (kt_lt (KD.oo (KE.fz (ke_len (ka_cons (ko_var (i := 1) (by rfl) (by decide +kernel)) ka_nil (by rfl)) (by decide +kernel) (by rfl)))) (KD.oo kd_int))))) (ke_sub (KD.oo (KE.fz (ke_len (ka_cons (ko_var (i := 1) (by rfl) (by decide +kernel)) ka_nil (by rfl)) (by decide +kernel) (by rfl)))) (KD.oo kd_int)) (KD.up kd_non)))
    kss_nil))))
theorem sc_wrong_line : FnScope ["text"] ["text"] (defScope (top 17)) := ⟨rfl, rfl, rfl, by decide +kernel, rfl, by decide +kernel, by decide +kernel⟩
theorem p_wrong_line (g : G0) (F : Nat → Addr) (FD : Nat → FuncData) : KSs (pmv g F FD 6) ⟨["text"], defScope (top 17), fun _ => true⟩ [] (defBody (top 17)) s_wrong_line :=
  (kss_cons (ks_if (kt_not (kt_val (ke_isi .str (ko_var (i := 0) (by rfl) (by decide +kernel)) (by rfl) (by decide +kernel) (by decide +kernel)) (by rfl))) (kss_cons (ks_raise (pm := pmv g F FD 6) (C := 0) (kd_var (i := 0) (by rfl) (by decide +kernel)) (by rfl) (by decide +kernel) (by rfl) (Nat.le_of_ble_eq_true rfl))
    kss_nil) kss_nil)
    (kss_cons (ks_ret (ke_call (pm := pmv g F FD 6) (i := 19) (by rfl) (Nat.le_of_ble_eq_true rfl) (ka_cons (KD.oo (kd_var (i := 0) (by rfl) (by decide +kernel))) ka_nil (by rfl)) (by decide +kernel) (by rfl)))
    kss_nil))
theorem sc_x_law_digits : FnScope ["word", "sign"] ["word"] (defScope (top 31)) := ⟨rfl, rfl, rfl, by decide +kernel, rfl, by decide +kernel, by decide +kernel⟩
theorem p_x_law_digits (g : G0) (F : Nat → Addr) (FD : Nat → FuncData) : KSs (pmv g F FD 0) ⟨["word", "sign"], defScope (top 31), fun _ => true⟩ [] (defBody (top 31)) s_x_law_digits :=
  (kss_cons (ks_ret (ke_and (KE.fz (ke_lele (KD.oo kd_int) (KD.oo (KE.fz (ke_len (ka_cons (ko_var (i := 0) (by rfl) (by decide +kernel)) ka_nil (by rfl)) (by decide +kernel) (by rfl)))) (KD.oo kd_int))) (ke_and (KE.fz (ke_eq (KD.oo (KE.fz (ke_lc (own := [("sign", 1)]) (ki_any (ko_var (i := 0) (by rfl) (by decide +kernel))) (kg_name (i := 1) (by rfl) (by decide +kernel)) (kts_one (kt_nin (ko_var (i := 1) (by rfl) (by decide +kernel)) (KD.oo kd_str) (by rfl))) (kd_var (i := 1) (by rfl) (by decide +kernel)) (by decide +kernel) (by decide)))) (KD.oo (KE.fz (ke_lst ka_nil))))) (ke_one (ke_or (KE.fz (ke_ne (KD.oo (KE.fz (ke_ix (ko_var (i := 0) (by rfl) (by decide +kernel)) (KD.oo kd_int) (by rfl)))) (KD.oo kd_str))) (ke_one (ke_eq (KD.oo (KE.fz (ke_len (ka_cons (ko_var (i := 0) (by rfl) (by decide +kernel)) ka_nil (by rfl)) (by decide +kernel) (by rfl)))) (KD.oo kd_int))))))))
    kss_nil)
theorem sc_x_law_read_number : FnScope ["word", "parts", "top", "under", "found", "part"] ["word"] (defScope (top 32)) := ⟨rfl, rfl, rfl, by decide +kernel, rfl, by decide +kernel, by decide +kernel⟩
theorem p_x_law_read_number (g : G0) (F : Nat → Addr) (FD : Nat → FuncData) : KSs (pmv g F FD 1) ⟨["word", "parts", "top", "under", "found", "part"], defScope (top 32), fun _ => true⟩ [1, 2, 3, 4] (defBody (top 32)) s_x_law_read_number :=
  (kss_cons (ks_set (i := 1) (ke_split (KD.oo (KE.fz (ke_if (kt_eq (KD.oo (KE.fz (ke_sl (ko_var (i := 0) (by rfl) (by decide +kernel)) kp_none (kp_some kd_int)))) (KD.oo kd_str)) (ke_sl (ko_var (i := 0) (by rfl) (by decide +kernel)) (kp_some kd_int) kp_none) (KD.up (kd_var (i := 0) (by rfl) (by decide +kernel)))))) (KD.oo kd_str) (by rfl) (by rfl) (by rfl)) (by rfl) (by decide +kernel) (by rfl) (by decide))
    (kss_cons (ks_if (kt_w (kw_or (kt_gt (KD.oo (KE.fz (ke_len (ka_cons (ko_var (i := 1) (by rfl) (by decide +kernel)) ka_nil (by rfl)) (by decide +kernel) (by rfl)))) (KD.oo kd_int)) (kw_or (kt_ne (KD.oo (KE.fz (ke_lc (own := [("part", 5)]) (ki_any (ko_var (i := 1) (by rfl) (by decide +kernel))) (kg_name (i := 5) (by rfl) (by decide +kernel)) (kts_one (kt_not (kt_val (ke_call (pm := pmv g F FD 1) (i := 21) (by rfl) (Nat.le_of_ble_eq_true rfl) (ka_cons (KD.oo (kd_var (i := 5) (by rfl) (by decide +kernel))) ka_nil (by rfl)) (by decide +kernel) (by rfl)) (by rfl)))) (kd_var (i := 5) (by rfl) (by decide +kernel)) (by decide +kernel) (by decide)))) (KD.oo (KE.fz (ke_lst ka_nil)))) (kw_or1 (kt_w (kw_and (kt_eq (KD.oo (KE.fz (ke_len (ka_cons (ko_var (i := 1) (by rfl) (by decide +kernel)) ka_nil (by rfl)) (by decide +kernel) (by rfl)))) (KD.oo kd_int)) (kw_and1 (kt_eq (KD.oo (KE.fz (ke_ix (ko_var (i := 1) (by rfl) (by decide +kernel)) (KD.oo kd_int) (by rfl)))) (KD.oo kd_str))))))))) (kss_cons (ks_ret (KD.up kd_non))
    kss_nil) kss_nil)
    (kss_cons (ks_par2 (i := 2) (j := 3) (ka_cons (KD.oo (KE.fz (ke_int (ka_cons (KD.oo (KE.fz (ke_ix (ko_var (i := 1) (by rfl) (by decide +kernel)) (KD.oo kd_int) (by rfl)))) ka_nil (by rfl)) (by decide +kernel) (by rfl)))) (ka_cons (KD.oo (KE.fz (ke_if (kt_eq (KD.oo (KE.fz (ke_len (ka_cons (ko_var (i := 1) (by rfl) (by decide +kernel)) ka_nil (by rfl)) (by decide +kernel) (by rfl)))) (KD.oo kd_int)) (ke_int (ka_cons (KD.oo (KE.fz (ke_ix (ko_var (i := 1) (by rfl) (by decide +kernel)) (KD.oo kd_int) (by rfl)))) ka_nil (by rfl)) (by decide +kernel) (by rfl)) (KD.up kd_int)))) ka_nil (by rfl)) (by rfl)) (by rfl) (by rfl) (by decide) (by decide +kernel) (by decide +kernel) (by decide) (by intro env he; obtain ⟨⟩ := env; cases he; rfl))
    (kss_cons (ks_set (i := 4) (ke_call (pm := pmv g F FD 1) (i := 9) (by rfl) (Nat.le_of_ble_eq_true rfl) (ka_cons (KD.oo (KE.fz (ke_if (kt_eq (KD.oo (KE.fz (ke_sl (ko_var (i := 0) (by rfl) (by decide +kernel)) kp_none (kp_some kd_int)))) (KD.oo kd_str)) (ke_sub (KD.oo kd_int) (ko_var (i := 2) (by rfl) (by decide +kernel))) (KD.up (kd_var (i := 2) (by rfl) (by decide +kernel)))))) (ka_cons (KD.oo (kd_var (i := 3) (by rfl) (by decide +kernel))) ka_nil (by rfl)) (by rfl)) (by decide +kernel) (by rfl)) (by rfl) (by decide +kernel) (by rfl) (by decide))
    (kss_cons (ks_ret (ke_if (kt_eq (KD.oo (KE.fz (ke_call (pm := pmv g F FD 1) (i := 2) (by rfl) (Nat.le_of_ble_eq_true rfl) (ka_cons (KD.oo (kd_var (i := 4) (by rfl) (by decide +kernel))) ka_nil (by rfl)) (by decide +kernel) (by rfl)))) (ko_var (i := 0) (by rfl) (by decide +kernel))) (ke_mv (i := 4) (by rfl) (by decide +kernel)) (KD.up kd_non)))
    kss_nil)))))
theorem sc_x_law_wrong : FnScope ["text", "lines", "wide", "number", "line", "row", "word"] ["text"] (defScope (top 33)) := ⟨rfl, rfl, rfl, by decide +kernel, rfl, by decide +kernel, by decide +kernel⟩
theorem p_x_law_wrong (g : G0) (F : Nat → Addr) (FD : Nat → FuncData) : KSs (pmv g F FD 2) ⟨["text", "lines", "wide", "number", "line", "row", "word"], defScope (top 33), fun _ => true⟩ [1, 2, 3, 4, 5] (defBody (top 33)) s_x_law_wrong :=
  (kss_cons (ks_par2 (i := 1) (j := 2) (ka_cons (KD.oo (KE.fz (ke_split (ko_var (i := 0) (by rfl) (by decide +kernel)) (KD.oo kd_str) (by rfl) (by rfl) (by rfl)))) (ka_cons (KD.oo kd_non) ka_nil (by rfl)) (by rfl)) (by rfl) (by rfl) (by decide) (by decide +kernel) (by decide +kernel) (by decide) (by intro env he; obtain ⟨⟩ := env; cases he; rfl))
    (kss_cons (ks_for (ki_enum (KD.oo (KE.fz (ke_sl (ko_var (i := 1) (by rfl) (by decide +kernel)) kp_none (kp_some (KE.fz (ke_neg (KD.oo kd_int))))))) (by decide +kernel) (by rfl)) (kg_tup (kgs_cons (kg_name (i := 3) (by rfl) (by decide +kernel)) (kgs_cons (kg_name (i := 4) (by rfl) (by decide +kernel)) kgs_nil (by rfl)) (by rfl)) (by rfl)) (kss_cons (ks_setLc (i := 5) (own := [("word", 6)]) (ki_any (KD.oo (KE.fz (ke_split (ko_var (i := 4) (by rfl) (by decide +kernel)) (KD.oo kd_str) (by rfl) (by rfl) (by rfl))))) (kg_name (i := 6) (by rfl) (by decide +kernel)) kts_nil (KE.fz (ke_call (pm := pmv g F FD 2) (i := 22) (by rfl) (Nat.le_of_ble_eq_true rfl) (ka_cons (KD.oo (kd_var (i := 6) (by rfl) (by decide +kernel))) ka_nil (by rfl)) (by decide +kernel) (by rfl))) (by decide +kernel) (by decide) (by rfl) (by decide +kernel) (by decide) (by rfl) (by decide +kernel) (by rfl))
    (kss_cons (ks_if (kt_w (kw_or (kt_in (KD.oo kd_non) (ko_var (i := 5) (by rfl) (by decide +kernel)) (by rfl)) (kw_or (kt_not (kt_lele (KD.oo kd_int) (KD.oo (KE.fz (ke_len (ka_cons (ko_var (i := 5) (by rfl) (by decide +kernel)) ka_nil (by rfl)) (by decide +kernel) (by rfl)))) (KD.oo kd_int))) (kw_or (kt_gt (ko_var (i := 3) (by rfl) (by decide +kernel)) (KD.oo kd_int)) (kw_or1 (kt_w (kw_and (kt_notN (ko_var (i := 2) (by rfl) (by decide +kernel))) (kw_and1 (kt_ne (KD.oo (KE.fz (ke_len (ka_cons (ko_var (i := 5) (by rfl) (by decide +kernel)) ka_nil (by rfl)) (by decide +kernel) (by rfl)))) (ko_var (i := 2) (by rfl) (by decide +kernel))))))))))) (kss_cons (ks_ret (ke_mv (i := 3) (by rfl) (by decide +kernel)))
    kss_nil) kss_nil)
    (kss_cons (ks_set (i := 2) (ke_len (ka_cons (ko_var (i := 5) (by rfl) (by decide +kernel)) ka_nil (by rfl)) (by decide +kernel) (by rfl)) (by rfl) (by decide +kernel) (by rfl) (by decide))
    kss_nil))) (by decide))
    (kss_cons (ks_ret (ke_if (kt_w (kw_and (kt_eq (KD.oo (KE.fz (ke_ix (ko_var (i := 1) (by rfl) (by decide +kernel)) (KD.oo (KE.fz (ke_neg (KD.oo kd_int)))) (by rfl)))) (KD.oo kd_str)) (kw_and1 (kt_notN (ko_var (i := 2) (by rfl) (by decide +kernel)))))) (KD.up kd_non) (ke_sub (KD.oo (KE.fz (ke_len (ka_cons (ko_var (i := 1) (by rfl) (by decide +kernel)) ka_nil (by rfl)) (by decide +kernel) (by rfl)))) (KD.oo kd_int))))
    kss_nil)))
theorem sc_read_table : FnScope ["text", "line"] ["text"] (defScope (top 18)) := ⟨rfl, rfl, rfl, by decide +kernel, rfl, by decide +kernel, by decide +kernel⟩
theorem p_read_table (g : G0) (F : Nat → Addr) (FD : Nat → FuncData) : KSs (pmv g F FD 6) ⟨["text", "line"], defScope (top 18), fun _ => true⟩ [] (defBody (top 18)) s_read_table :=
  (kss_cons (ks_if (kt_w (kw_or (kt_not (kt_val (ke_isi .str (ko_var (i := 0) (by rfl) (by decide +kernel)) (by rfl) (by decide +kernel) (by decide +kernel)) (by rfl))) (kw_or1 (kt_notN (KD.oo (KE.fz (ke_call (pm := pmv g F FD 6) (i := 19) (by rfl) (Nat.le_of_ble_eq_true rfl) (ka_cons (KD.oo (kd_var (i := 0) (by rfl) (by decide +kernel))) ka_nil (by rfl)) (by decide +kernel) (by rfl)))))))) (kss_cons (ks_raise (pm := pmv g F FD 6) (C := 0) (kd_var (i := 0) (by rfl) (by decide +kernel)) (by rfl) (by decide +kernel) (by rfl) (Nat.le_of_ble_eq_true rfl))
    kss_nil) kss_nil)
    (kss_cons (ks_ret (ke_lc (own := [("line", 1)]) (ki_any (KD.oo (KE.fz (ke_sl (KD.oo (KE.fz (ke_split (ko_var (i := 0) (by rfl) (by decide +kernel)) (KD.oo (kd_con (pm := pmv g F FD 6) (i := 2) (by rfl) (by decide +kernel))) (by rfl) (by rfl) (by rfl)))) kp_none (kp_some (KE.fz (ke_neg (KD.oo kd_int)))))))) (kg_name (i := 1) (by rfl) (by decide +kernel)) kts_nil (KE.fz (ke_call (pm := pmv g F FD 6) (i := 17) (by rfl) (Nat.le_of_ble_eq_true rfl) (ka_cons (KD.oo (kd_var (i := 1) (by rfl) (by decide +kernel))) ka_nil (by rfl)) (by decide +kernel) (by rfl))) (by decide +kernel) (by decide)))
    kss_nil))
theorem sc_law : FnScope ["script", "index", "generator", "text", "due", "caught", "e"] ["script"] (defScope (top 35)) := ⟨rfl, rfl, rfl, by decide +kernel, rfl, by decide +kernel, by decide +kernel⟩
theorem p_law (g : G0) (F : Nat → Addr) (FD : Nat → FuncData) : KSs (pmv g F FD 7) ⟨["script", "index", "generator", "text", "due", "caught", "e"], defScope (top 35), fun _ => true⟩ [1, 2, 3, 4, 5, 6] (defBody (top 35)) s_law :=
  (kss_cons (ks_for (ki_rng1 kd_int (by decide +kernel) (by rfl)) (kg_name (i := 1) (by rfl) (by decide +kernel)) (kss_cons (ks_set (i := 2) (ke_call (pm := pmv g F FD 7) (i := 1) (by rfl) (Nat.le_of_ble_eq_true rfl) (ka_cons (KD.oo (kd_var (i := 0) (by rfl) (by decide +kernel))) (ka_cons (KD.oo (kd_var (i := 1) (by rfl) (by decide +kernel))) ka_nil (by rfl)) (by rfl)) (by decide +kernel) (by rfl)) (by rfl) (by decide +kernel) (by rfl) (by decide))
    (kss_cons (ks_for (ki_any (KD.oo (KE.fz (ke_call (pm := pmv g F FD 7) (i := 8) (by rfl) (Nat.le_of_ble_eq_true rfl) (ka_cons (ko_var (i := 2) (by rfl) (by decide +kernel)) (ka_cons (KD.oo (KE.fz (ke_call (pm := pmv g F FD 7) (i := 11) (by rfl) (Nat.le_of_ble_eq_true rfl) (ka_cons (ko_var (i := 2) (by rfl) (by decide +kernel)) (ka_cons (KD.oo kd_int) (ka_cons (KD.oo kd_int) ka_nil (by rfl)) (by rfl)) (by rfl)) (by decide +kernel) (by rfl)))) ka_nil (by rfl)) (by rfl)) (by decide +kernel) (by rfl))))) (kg_name (i := 3) (by rfl) (by decide +kernel)) (kss_cons (ks_par2 (i := 4) (j := 5) (ka_cons (KD.oo (KE.fz (ke_call (pm := pmv g F FD 7) (i := 23) (by rfl) (Nat.le_of_ble_eq_true rfl) (ka_cons (KD.oo (kd_var (i := 3) (by rfl) (by decide +kernel))) ka_nil (by rfl)) (by decide +kernel) (by rfl)))) (ka_cons (KD.oo kd_non) ka_nil (by rfl)) (by rfl)) (by rfl) (by rfl) (by decide) (by decide +kernel) (by decide +kernel) (by decide) (by intro env he; obtain ⟨⟩ := env; cases he; rfl))
    (kss_cons (ks_if (kt_ne (KD.oo (KE.fz (ke_repr (ka_cons (KD.oo (KE.fz (ke_lst (ka_cons (KD.oo (KE.fz (ke_call (pm := pmv g F FD 7) (i := 20) (by rfl) (Nat.le_of_ble_eq_true rfl) (ka_cons (KD.oo (kd_var (i := 3) (by rfl) (by decide +kernel))) ka_nil (by rfl)) (by decide +kernel) (by rfl)))) (ka_cons (KD.oo (KE.fz (ke_callK0 (pm := pmv g F FD 7) (i := 20) ⟨0, ["text"], [0], []⟩ (by rfl) List.mem_cons_self (Nat.le_of_ble_eq_true rfl) (kk_cons (KD.oo (kd_var (i := 3) (by rfl) (by decide +kernel))) kk_nil) (by decide +kernel)))) ka_nil (by rfl)) (by rfl))))) ka_nil (by rfl)) (by decide +kernel) (by rfl)))) (KD.oo (KE.fz (ke_repr (ka_cons (KD.oo (KE.fz (ke_lst (ka_cons (KD.oo (kd_var (i := 4) (by rfl) (by decide +kernel))) (ka_cons (KD.oo (kd_var (i := 4) (by rfl) (by decide +kernel))) ka_nil (by rfl)) (by rfl))))) ka_nil (by rfl)) (by decide +kernel) (by rfl))))) (kss_cons (ks_ret (KD.up kd_bl))
    kss_nil) kss_nil)
    (kss_cons (ks_try (pm := pmv g F FD 7) (C := 0) (i := 6) (j := 5) (kss_cons (ks_expr (ke_call (pm := pmv g F FD 7) (i := 24) (by rfl) (Nat.le_of_ble_eq_true rfl) (ka_cons (KD.oo (kd_var (i := 3) (by rfl) (by decide +kernel))) ka_nil (by rfl)) (by decide +kernel) (by rfl)) (by rfl))
    kss_nil) (by rfl) (by decide +kernel) (by rfl) (by rfl) (by decide) (by decide +kernel) (by decide +kernel) (by decide) (by decide) (by decide +kernel))
    (kss_cons (ks_if (kt_ne (KD.oo (KE.fz (ke_isN (ko_var (i := 5) (by rfl) (by decide +kernel))))) (KD.oo (KE.fz (ke_isN (ko_var (i := 4) (by rfl) (by decide +kernel)))))) (kss_cons (ks_ret (KD.up kd_bl))
    kss_nil) kss_nil)
    kss_nil)))) (by decide))
    kss_nil)) (by decide))
    (kss_cons (ks_ret (ke_and (KE.fz (ke_eq (KD.oo (KE.fz (ke_call (pm := pmv g F FD 7) (i := 20) (by rfl) (Nat.le_of_ble_eq_true rfl) (ka_cons (KD.oo (KE.fz (ke_mul (KD.oo kd_str) (KD.oo kd_int)))) ka_nil (by rfl)) (by decide +kernel) (by rfl)))) (KD.oo kd_int))) (ke_one (ke_isN (KD.oo (KE.fz (ke_call (pm := pmv g F FD 7) (i := 20) (by rfl) (Nat.le_of_ble_eq_true rfl) (ka_cons (KD.oo (KE.fz (ke_mul (KD.oo kd_str) (KD.oo kd_int)))) ka_nil (by rfl)) (by decide +kernel) (by rfl))))))))
    kss_nil))end K85
set_option Elab.async false
namespace K85
open PySem PySem.W PyProof.Rows
set_option maxRecDepth 100000 in
set_option maxHeartbeats 8000000 in
open_top hd for PySem.Challenge.rw_fewnonzero_k85_whole_wrong_lines_of_tabl
end K85
set_option Elab.async false
set_option maxRecDepth 100000
set_option maxHeartbeats 4000000
namespace K85
open PySem PySem.Spec PyProof.Rows L2 Ev
abbrev fewInit : Stmt := match top 1 with
  | .ClassDef _ _ _ b _ _ _ _ _ _ _ => b.getD 0 (.Pass ⟨0, 0, 0, 0⟩)
  | s => s
section
variable {w : World} {K : PySem.W.Frag} {mg : Str → Option Value} {base : Heap} {g : G0} {F : Nat → Addr} {FD : Nat → FuncData}
structure Dfs (K : PySem.W.Frag) (mg : Str → Option Value) (F : Nat → Addr) (FD : Nat → FuncData) : Prop where
  d0 : DF K mg "_law_cell" (top 22) (F 0) (FD 0)
  d1 : DF K mg "_law_generator" (top 23) (F 1) (FD 1)
  d2 : DF K mg "_law_word" (top 28) (F 2) (FD 2)
  d3 : DF K mg "_law_words" (top 29) (F 3) (FD 3)
  d4 : DF K mg "_law_text" (top 30) (F 4) (FD 4)
  d5 : DF K mg "_law_hash" (top 20) (F 5) (FD 5)
  d6 : DF K mg "_law_random" (top 21) (F 6) (FD 6)
  d7 : DF K mg "_law_pick" (top 24) (F 7) (FD 7)
  d8 : DF K mg "_law_texts" (top 34) (F 8) (FD 8)
  d9 : DF K mg "_law_lowest" (top 25) (F 9) (FD 9)
  d10 : DF K mg "_law_times" (top 26) (F 10) (FD 10)
  d11 : DF K mg "_law_table" (top 27) (F 11) (FD 11)
  d12 : DF K mg "common_divisor" (top 4) (F 12) (FD 12)
  d13 : DF K mg "lowest" (top 5) (F 13) (FD 13)
  d14 : DF K mg "fraction_words" (top 11) (F 14) (FD 14)
  d15 : DF K mg "is_digits" (top 12) (F 15) (FD 15)
  d16 : DF K mg "fraction_told" (top 13) (F 16) (FD 16)
  d17 : DF K mg "row_told" (top 14) (F 17) (FD 17)
  d18 : DF K mg "wrong_in" (top 15) (F 18) (FD 18)
  d19 : DF K mg "wrong_by" (top 16) (F 19) (FD 19)
  d20 : DF K mg "wrong_line" (top 17) (F 20) (FD 20)
  d21 : DF K mg "_law_digits" (top 31) (F 21) (FD 21)
  d22 : DF K mg "_law_read_number" (top 32) (F 22) (FD 22)
  d23 : DF K mg "_law_wrong" (top 33) (F 23) (FD 23)
  d24 : DF K mg "read_table" (top 18) (F 24) (FD 24)
  d25 : DF K mg "law" (top 35) (F 25) (FD 25)
theorem b_0 (D : Dfs K mg F FD) : L2.Binds K (FD 0) ["script", "index"] [] := D.d0.binds fun _ _ _ _ _ _ us hl => match us, hl with | [_, _], _ => rfl
theorem k_0 (D : Dfs K mg F FD) : ∀ k ∈ ([] : List KwE), KBd K (FD 0) ["script", "index"] k := fun k hk => (nomatch hk)
theorem b_1 (D : Dfs K mg F FD) : L2.Binds K (FD 1) ["script", "index"] [] := D.d1.binds fun _ _ _ _ _ _ us hl => match us, hl with | [_, _], _ => rfl
theorem k_1 (D : Dfs K mg F FD) : ∀ k ∈ ([] : List KwE), KBd K (FD 1) ["script", "index"] k := fun k hk => (nomatch hk)
theorem b_2 (D : Dfs K mg F FD) : L2.Binds K (FD 2) ["number"] [] := D.d2.binds fun _ _ _ _ _ _ us hl => match us, hl with | [_], _ => rfl
theorem k_2 (D : Dfs K mg F FD) : ∀ k ∈ ([] : List KwE), KBd K (FD 2) ["number"] k := fun k hk => (nomatch hk)
theorem b_3 (D : Dfs K mg F FD) : L2.Binds K (FD 3) ["row"] [] := D.d3.binds fun _ _ _ _ _ _ us hl => match us, hl with | [_], _ => rfl
theorem k_3 (D : Dfs K mg F FD) : ∀ k ∈ ([] : List KwE), KBd K (FD 3) ["row"] k := fun k hk => (nomatch hk)
theorem b_4 (D : Dfs K mg F FD) : L2.Binds K (FD 4) ["table"] [] := D.d4.binds fun _ _ _ _ _ _ us hl => match us, hl with | [_], _ => rfl
theorem k_4 (D : Dfs K mg F FD) : ∀ k ∈ ([] : List KwE), KBd K (FD 4) ["table"] k := fun k hk => (nomatch hk)
theorem b_5 (D : Dfs K mg F FD) : L2.Binds K (FD 5) ["seed", "index"] [] := D.d5.binds fun _ _ _ _ _ _ us hl => match us, hl with | [_, _], _ => rfl
theorem k_5 (D : Dfs K mg F FD) : ∀ k ∈ ([] : List KwE), KBd K (FD 5) ["seed", "index"] k := fun k hk => (nomatch hk)
theorem b_6 (D : Dfs K mg F FD) : L2.Binds K (FD 6) ["generator", "bound"] [] := D.d6.binds fun _ _ _ _ _ _ us hl => match us, hl with | [_, _], _ => rfl
theorem k_6 (D : Dfs K mg F FD) : ∀ k ∈ ([] : List KwE), KBd K (FD 6) ["generator", "bound"] k := fun k hk => (nomatch hk)
theorem b_7 (D : Dfs K mg F FD) : L2.Binds K (FD 7) ["generator", "row"] [] := D.d7.binds fun _ _ _ _ _ _ us hl => match us, hl with | [_, _], _ => rfl
theorem k_7 (D : Dfs K mg F FD) : ∀ k ∈ ([] : List KwE), KBd K (FD 7) ["generator", "row"] k := fun k hk => (nomatch hk)
theorem b_8 (D : Dfs K mg F FD) : L2.Binds K (FD 8) ["generator", "table"] [] := D.d8.binds fun _ _ _ _ _ _ us hl => match us, hl with | [_, _], _ => rfl
theorem k_8 (D : Dfs K mg F FD) : ∀ k ∈ ([] : List KwE), KBd K (FD 8) ["generator", "table"] k := fun k hk => (nomatch hk)
theorem b_9 (D : Dfs K mg F FD) : L2.Binds K (FD 9) ["top", "under"] [] := D.d9.binds fun _ _ _ _ _ _ us hl => match us, hl with | [_, _], _ => rfl
theorem k_9 (D : Dfs K mg F FD) : ∀ k ∈ ([] : List KwE), KBd K (FD 9) ["top", "under"] k := fun k hk => (nomatch hk)
theorem b_10 (D : Dfs K mg F FD) : L2.Binds K (FD 10) ["one", "other"] [] := D.d10.binds fun _ _ _ _ _ _ us hl => match us, hl with | [_, _], _ => rfl
theorem k_10 (D : Dfs K mg F FD) : ∀ k ∈ ([] : List KwE), KBd K (FD 10) ["one", "other"] k := fun k hk => (nomatch hk)
theorem b_11 (D : Dfs K mg F FD) : L2.Binds K (FD 11) ["generator", "most", "wide"] [] := D.d11.binds fun _ _ _ _ _ _ us hl => match us, hl with | [_, _, _], _ => rfl
theorem k_11 (D : Dfs K mg F FD) : ∀ k ∈ ([] : List KwE), KBd K (FD 11) ["generator", "most", "wide"] k := fun k hk => (nomatch hk)
theorem b_12 (D : Dfs K mg F FD) : L2.Binds K (FD 12) ["one", "other"] [] := D.d12.binds fun _ _ _ _ _ _ us hl => match us, hl with | [_, _], _ => rfl
theorem k_12 (D : Dfs K mg F FD) : ∀ k ∈ ([] : List KwE), KBd K (FD 12) ["one", "other"] k := fun k hk => (nomatch hk)
theorem b_13 (D : Dfs K mg F FD) : L2.Binds K (FD 13) ["top", "under"] [] := D.d13.binds fun _ _ _ _ _ _ us hl => match us, hl with | [_, _], _ => rfl
theorem k_13 (D : Dfs K mg F FD) : ∀ k ∈ ([] : List KwE), KBd K (FD 13) ["top", "under"] k := fun k hk => (nomatch hk)
theorem b_14 (D : Dfs K mg F FD) : L2.Binds K (FD 14) ["number"] [] := D.d14.binds fun _ _ _ _ _ _ us hl => match us, hl with | [_], _ => rfl
theorem k_14 (D : Dfs K mg F FD) : ∀ k ∈ ([] : List KwE), KBd K (FD 14) ["number"] k := fun k hk => (nomatch hk)
theorem b_15 (D : Dfs K mg F FD) : L2.Binds K (FD 15) ["word"] [] := D.d15.binds fun _ _ _ _ _ _ us hl => match us, hl with | [_], _ => rfl
theorem k_15 (D : Dfs K mg F FD) : ∀ k ∈ ([] : List KwE), KBd K (FD 15) ["word"] k := fun k hk => (nomatch hk)
theorem b_16 (D : Dfs K mg F FD) : L2.Binds K (FD 16) ["word"] [] := D.d16.binds fun _ _ _ _ _ _ us hl => match us, hl with | [_], _ => rfl
theorem k_16 (D : Dfs K mg F FD) : ∀ k ∈ ([] : List KwE), KBd K (FD 16) ["word"] k := fun k hk => (nomatch hk)
theorem b_17 (D : Dfs K mg F FD) : L2.Binds K (FD 17) ["line"] [] := D.d17.binds fun _ _ _ _ _ _ us hl => match us, hl with | [_], _ => rfl
theorem k_17 (D : Dfs K mg F FD) : ∀ k ∈ ([] : List KwE), KBd K (FD 17) ["line"] k := fun k hk => (nomatch hk)
theorem b_18 (D : Dfs K mg F FD) : L2.Binds K (FD 18) ["lines"] [] := D.d18.binds fun _ _ _ _ _ _ us hl => match us, hl with | [_], _ => rfl
theorem k_18 (D : Dfs K mg F FD) : ∀ k ∈ ([] : List KwE), KBd K (FD 18) ["lines"] k := fun k hk => (nomatch hk)
theorem b_19 (D : Dfs K mg F FD) : L2.Binds K (FD 19) ["text"] [] := D.d19.binds fun _ _ _ _ _ _ us hl => match us, hl with | [_], _ => rfl
theorem k_19 (D : Dfs K mg F FD) : ∀ k ∈ ([] : List KwE), KBd K (FD 19) ["text"] k := fun k hk => (nomatch hk)
theorem b_20 (D : Dfs K mg F FD) : L2.Binds K (FD 20) ["text"] [] := D.d20.binds fun _ _ _ _ _ _ us hl => match us, hl with | [_], _ => rfl
theorem k_20 (D : Dfs K mg F FD) : ∀ k ∈ ([⟨0, ["text"], [0], []⟩] : List KwE), KBd K (FD 20) ["text"] k := by
  intro k hk
  rcases List.mem_cons.mp hk with rfl | hk
  · exact (D.d20.kbd ⟨0, ["text"], [0], []⟩ rfl fun _ _ _ _ _ _ us ws h1 h2 => match us, ws, h1, h2 with | [], [_], _, _ => rfl)
  cases hk
theorem b_21 (D : Dfs K mg F FD) : L2.Binds K (FD 21) ["word"] [] := D.d21.binds fun _ _ _ _ _ _ us hl => match us, hl with | [_], _ => rfl
theorem k_21 (D : Dfs K mg F FD) : ∀ k ∈ ([] : List KwE), KBd K (FD 21) ["word"] k := fun k hk => (nomatch hk)
theorem b_22 (D : Dfs K mg F FD) : L2.Binds K (FD 22) ["word"] [] := D.d22.binds fun _ _ _ _ _ _ us hl => match us, hl with | [_], _ => rfl
theorem k_22 (D : Dfs K mg F FD) : ∀ k ∈ ([] : List KwE), KBd K (FD 22) ["word"] k := fun k hk => (nomatch hk)
theorem b_23 (D : Dfs K mg F FD) : L2.Binds K (FD 23) ["text"] [] := D.d23.binds fun _ _ _ _ _ _ us hl => match us, hl with | [_], _ => rfl
theorem k_23 (D : Dfs K mg F FD) : ∀ k ∈ ([] : List KwE), KBd K (FD 23) ["text"] k := fun k hk => (nomatch hk)
theorem b_24 (D : Dfs K mg F FD) : L2.Binds K (FD 24) ["text"] [] := D.d24.binds fun _ _ _ _ _ _ us hl => match us, hl with | [_], _ => rfl
theorem k_24 (D : Dfs K mg F FD) : ∀ k ∈ ([] : List KwE), KBd K (FD 24) ["text"] k := fun k hk => (nomatch hk)
theorem b_25 (D : Dfs K mg F FD) : L2.Binds K (FD 25) ["script"] [] := D.d25.binds fun _ _ _ _ _ _ us hl => match us, hl with | [_], _ => rfl
theorem k_25 (D : Dfs K mg F FD) : ∀ k ∈ ([] : List KwE), KBd K (FD 25) ["script"] k := fun k hk => (nomatch hk)
structure Oth (w : World) (K : PySem.W.Frag) (mg : Str → Option Value) (base : Heap) (g : G0) : Prop where
  hK : K = g.K
  fr : ∀ x ∈ (["abs", "all", "any", "bool", "enumerate", "int", "isinstance", "len", "list", "max", "min", "ord", "range", "repr", "sorted", "str", "sum", "tuple", "zip"] : List Str), mg x = none
  cn : ∀ i x c, con i = some (x, c) → ∃ u v, mg x = some u ∧ RelV v u ∧ ∀ Z H, RD g.K Z H c v
  ex : ∀ C x, xn C = some x → ErrI PySem.Challenge.pw_fewnonzero_k85_whole_wrong_lines_of_tabl w K mg base x (g.CA C)
  em : ∀ C x C' x', xn C = some x → xn C' = some x' → PySem.W.exmOne K (.ref (g.CA C)) (.ref (g.CA C')) = some (xsub C C')
theorem w_0 (D : Dfs K mg F FD) (O : Oth w K mg base g) : Wd (pmv g F FD 0) PySem.Challenge.pw_fewnonzero_k85_whole_wrong_lines_of_tabl w K mg base := by
  refine ⟨O.hK, O.fr, O.cn, fun i d h hl => ?_, O.ex, O.em⟩
  match i, h with
  | 0, h => cases h; exact ((show ¬ ((1 : Nat) ≤ 0) by decide) hl).elim
  | 1, h => cases h; exact ((show ¬ ((2 : Nat) ≤ 0) by decide) hl).elim
  | 2, h => cases h; exact ((show ¬ ((1 : Nat) ≤ 0) by decide) hl).elim
  | 3, h => cases h; exact ((show ¬ ((2 : Nat) ≤ 0) by decide) hl).elim
  | 4, h => cases h; exact ((show ¬ ((3 : Nat) ≤ 0) by decide) hl).elim
  | 5, h => cases h; exact ((show ¬ ((1 : Nat) ≤ 0) by decide) hl).elim
  | 6, h => cases h; exact ((show ¬ ((2 : Nat) ≤ 0) by decide) hl).elim
  | 7, h => cases h; exact ((show ¬ ((3 : Nat) ≤ 0) by decide) hl).elim
  | 8, h => cases h; exact ((show ¬ ((4 : Nat) ≤ 0) by decide) hl).elim
  | 9, h => cases h; exact ((show ¬ ((1 : Nat) ≤ 0) by decide) hl).elim
  | 10, h => cases h; exact ((show ¬ ((2 : Nat) ≤ 0) by decide) hl).elim
  | 11, h => cases h; exact ((show ¬ ((3 : Nat) ≤ 0) by decide) hl).elim
  | 12, h => cases h; exact ((show ¬ ((1 : Nat) ≤ 0) by decide) hl).elim
  | 13, h => cases h; exact ((show ¬ ((2 : Nat) ≤ 0) by decide) hl).elim
  | 14, h => cases h; exact ((show ¬ ((1 : Nat) ≤ 0) by decide) hl).elim
  | 15, h => cases h; exact ((show ¬ ((1 : Nat) ≤ 0) by decide) hl).elim
  | 16, h => cases h; exact ((show ¬ ((3 : Nat) ≤ 0) by decide) hl).elim
  | 17, h => cases h; exact ((show ¬ ((4 : Nat) ≤ 0) by decide) hl).elim
  | 18, h => cases h; exact ((show ¬ ((5 : Nat) ≤ 0) by decide) hl).elim
  | 19, h => cases h; exact ((show ¬ ((6 : Nat) ≤ 0) by decide) hl).elim
  | 20, h => cases h; exact ((show ¬ ((7 : Nat) ≤ 0) by decide) hl).elim
  | 21, h => cases h; exact ((show ¬ ((1 : Nat) ≤ 0) by decide) hl).elim
  | 22, h => cases h; exact ((show ¬ ((2 : Nat) ≤ 0) by decide) hl).elim
  | 23, h => cases h; exact ((show ¬ ((3 : Nat) ≤ 0) by decide) hl).elim
  | 24, h => cases h; exact ((show ¬ ((7 : Nat) ≤ 0) by decide) hl).elim
  | 25, h => cases h; exact ((show ¬ ((8 : Nat) ≤ 0) by decide) hl).elim
  | n + 26, h => cases h
theorem g_0 (D : Dfs K mg F FD) (O : Oth w K mg base g) : FnG PySem.Challenge.pw_fewnonzero_k85_whole_wrong_lines_of_tabl w K mg base 1 (F 0) (FD 0) ["script", "index"] (spOf g 2 f_x_law_cell) := D.d0.ok (w_0 D O) rfl sc_x_law_cell (p_x_law_cell g F FD)
theorem g_2 (D : Dfs K mg F FD) (O : Oth w K mg base g) : FnG PySem.Challenge.pw_fewnonzero_k85_whole_wrong_lines_of_tabl w K mg base 1 (F 2) (FD 2) ["number"] (spOf g 1 f_x_law_word) := D.d2.ok (w_0 D O) rfl sc_x_law_word (p_x_law_word g F FD)
theorem g_5 (D : Dfs K mg F FD) (O : Oth w K mg base g) : FnG PySem.Challenge.pw_fewnonzero_k85_whole_wrong_lines_of_tabl w K mg base 1 (F 5) (FD 5) ["seed", "index"] (spOf g 2 f_x_law_hash) := D.d5.ok (w_0 D O) rfl sc_x_law_hash (p_x_law_hash g F FD)
theorem g_9 (D : Dfs K mg F FD) (O : Oth w K mg base g) : FnG PySem.Challenge.pw_fewnonzero_k85_whole_wrong_lines_of_tabl w K mg base 1 (F 9) (FD 9) ["top", "under"] (spOf g 2 f_x_law_lowest) := D.d9.ok (w_0 D O) rfl sc_x_law_lowest (p_x_law_lowest g F FD)
theorem g_12 (D : Dfs K mg F FD) (O : Oth w K mg base g) : FnG PySem.Challenge.pw_fewnonzero_k85_whole_wrong_lines_of_tabl w K mg base 1 (F 12) (FD 12) ["one", "other"] (spOf g 2 f_common_divisor) := D.d12.ok (w_0 D O) rfl sc_common_divisor (p_common_divisor g F FD)
theorem g_14 (D : Dfs K mg F FD) (O : Oth w K mg base g) : FnG PySem.Challenge.pw_fewnonzero_k85_whole_wrong_lines_of_tabl w K mg base 1 (F 14) (FD 14) ["number"] (spOf g 1 f_fraction_words) := D.d14.ok (w_0 D O) rfl sc_fraction_words (p_fraction_words g F FD)
theorem g_15 (D : Dfs K mg F FD) (O : Oth w K mg base g) : FnG PySem.Challenge.pw_fewnonzero_k85_whole_wrong_lines_of_tabl w K mg base 1 (F 15) (FD 15) ["word"] (spOf g 1 f_is_digits) := D.d15.ok (w_0 D O) rfl sc_is_digits (p_is_digits g F FD)
theorem g_21 (D : Dfs K mg F FD) (O : Oth w K mg base g) : FnG PySem.Challenge.pw_fewnonzero_k85_whole_wrong_lines_of_tabl w K mg base 1 (F 21) (FD 21) ["word"] (spOf g 1 f_x_law_digits) := D.d21.ok (w_0 D O) rfl sc_x_law_digits (p_x_law_digits g F FD)
theorem w_1 (D : Dfs K mg F FD) (O : Oth w K mg base g) : Wd (pmv g F FD 1) PySem.Challenge.pw_fewnonzero_k85_whole_wrong_lines_of_tabl w K mg base := by
  refine ⟨O.hK, O.fr, O.cn, fun i d h hl => ?_, O.ex, O.em⟩
  match i, h with
  | 0, h => cases h; exact ⟨D.d0.nm, D.d0.kp, b_0 D, g_0 D O, k_0 D⟩
  | 1, h => cases h; exact ((show ¬ ((2 : Nat) ≤ 1) by decide) hl).elim
  | 2, h => cases h; exact ⟨D.d2.nm, D.d2.kp, b_2 D, g_2 D O, k_2 D⟩
  | 3, h => cases h; exact ((show ¬ ((2 : Nat) ≤ 1) by decide) hl).elim
  | 4, h => cases h; exact ((show ¬ ((3 : Nat) ≤ 1) by decide) hl).elim
  | 5, h => cases h; exact ⟨D.d5.nm, D.d5.kp, b_5 D, g_5 D O, k_5 D⟩
  | 6, h => cases h; exact ((show ¬ ((2 : Nat) ≤ 1) by decide) hl).elim
  | 7, h => cases h; exact ((show ¬ ((3 : Nat) ≤ 1) by decide) hl).elim
  | 8, h => cases h; exact ((show ¬ ((4 : Nat) ≤ 1) by decide) hl).elim
  | 9, h => cases h; exact ⟨D.d9.nm, D.d9.kp, b_9 D, g_9 D O, k_9 D⟩
  | 10, h => cases h; exact ((show ¬ ((2 : Nat) ≤ 1) by decide) hl).elim
  | 11, h => cases h; exact ((show ¬ ((3 : Nat) ≤ 1) by decide) hl).elim
  | 12, h => cases h; exact ⟨D.d12.nm, D.d12.kp, b_12 D, g_12 D O, k_12 D⟩
  | 13, h => cases h; exact ((show ¬ ((2 : Nat) ≤ 1) by decide) hl).elim
  | 14, h => cases h; exact ⟨D.d14.nm, D.d14.kp, b_14 D, g_14 D O, k_14 D⟩
  | 15, h => cases h; exact ⟨D.d15.nm, D.d15.kp, b_15 D, g_15 D O, k_15 D⟩
  | 16, h => cases h; exact ((show ¬ ((3 : Nat) ≤ 1) by decide) hl).elim
  | 17, h => cases h; exact ((show ¬ ((4 : Nat) ≤ 1) by decide) hl).elim
  | 18, h => cases h; exact ((show ¬ ((5 : Nat) ≤ 1) by decide) hl).elim
  | 19, h => cases h; exact ((show ¬ ((6 : Nat) ≤ 1) by decide) hl).elim
  | 20, h => cases h; exact ((show ¬ ((7 : Nat) ≤ 1) by decide) hl).elim
  | 21, h => cases h; exact ⟨D.d21.nm, D.d21.kp, b_21 D, g_21 D O, k_21 D⟩
  | 22, h => cases h; exact ((show ¬ ((2 : Nat) ≤ 1) by decide) hl).elim
  | 23, h => cases h; exact ((show ¬ ((3 : Nat) ≤ 1) by decide) hl).elim
  | 24, h => cases h; exact ((show ¬ ((7 : Nat) ≤ 1) by decide) hl).elim
  | 25, h => cases h; exact ((show ¬ ((8 : Nat) ≤ 1) by decide) hl).elim
  | n + 26, h => cases h
theorem g_1 (D : Dfs K mg F FD) (O : Oth w K mg base g) : FnG PySem.Challenge.pw_fewnonzero_k85_whole_wrong_lines_of_tabl w K mg base 2 (F 1) (FD 1) ["script", "index"] (spOf g 2 f_x_law_generator) := D.d1.ok (w_1 D O) rfl sc_x_law_generator (p_x_law_generator g F FD)
theorem g_3 (D : Dfs K mg F FD) (O : Oth w K mg base g) : FnG PySem.Challenge.pw_fewnonzero_k85_whole_wrong_lines_of_tabl w K mg base 2 (F 3) (FD 3) ["row"] (spOf g 1 f_x_law_words) := D.d3.ok (w_1 D O) rfl sc_x_law_words (p_x_law_words g F FD)
theorem g_6 (D : Dfs K mg F FD) (O : Oth w K mg base g) : FnG PySem.Challenge.pw_fewnonzero_k85_whole_wrong_lines_of_tabl w K mg base 2 (F 6) (FD 6) ["generator", "bound"] (spOf g 2 f_x_law_random) := D.d6.ok (w_1 D O) rfl sc_x_law_random (p_x_law_random g F FD)
theorem g_10 (D : Dfs K mg F FD) (O : Oth w K mg base g) : FnG PySem.Challenge.pw_fewnonzero_k85_whole_wrong_lines_of_tabl w K mg base 2 (F 10) (FD 10) ["one", "other"] (spOf g 2 f_x_law_times) := D.d10.ok (w_1 D O) rfl sc_x_law_times (p_x_law_times g F FD)
theorem g_13 (D : Dfs K mg F FD) (O : Oth w K mg base g) : FnG PySem.Challenge.pw_fewnonzero_k85_whole_wrong_lines_of_tabl w K mg base 2 (F 13) (FD 13) ["top", "under"] (spOf g 2 f_lowest) := D.d13.ok (w_1 D O) rfl sc_lowest (p_lowest g F FD)
theorem g_22 (D : Dfs K mg F FD) (O : Oth w K mg base g) : FnG PySem.Challenge.pw_fewnonzero_k85_whole_wrong_lines_of_tabl w K mg base 2 (F 22) (FD 22) ["word"] (spOf g 1 f_x_law_read_number) := D.d22.ok (w_1 D O) rfl sc_x_law_read_number (p_x_law_read_number g F FD)
theorem w_2 (D : Dfs K mg F FD) (O : Oth w K mg base g) : Wd (pmv g F FD 2) PySem.Challenge.pw_fewnonzero_k85_whole_wrong_lines_of_tabl w K mg base := by
  refine ⟨O.hK, O.fr, O.cn, fun i d h hl => ?_, O.ex, O.em⟩
  match i, h with
  | 0, h => cases h; exact ⟨D.d0.nm, D.d0.kp, b_0 D, g_0 D O, k_0 D⟩
  | 1, h => cases h; exact ⟨D.d1.nm, D.d1.kp, b_1 D, g_1 D O, k_1 D⟩
  | 2, h => cases h; exact ⟨D.d2.nm, D.d2.kp, b_2 D, g_2 D O, k_2 D⟩
  | 3, h => cases h; exact ⟨D.d3.nm, D.d3.kp, b_3 D, g_3 D O, k_3 D⟩
  | 4, h => cases h; exact ((show ¬ ((3 : Nat) ≤ 2) by decide) hl).elim
  | 5, h => cases h; exact ⟨D.d5.nm, D.d5.kp, b_5 D, g_5 D O, k_5 D⟩
  | 6, h => cases h; exact ⟨D.d6.nm, D.d6.kp, b_6 D, g_6 D O, k_6 D⟩
  | 7, h => cases h; exact ((show ¬ ((3 : Nat) ≤ 2) by decide) hl).elim
  | 8, h => cases h; exact ((show ¬ ((4 : Nat) ≤ 2) by decide) hl).elim
  | 9, h => cases h; exact ⟨D.d9.nm, D.d9.kp, b_9 D, g_9 D O, k_9 D⟩
  | 10, h => cases h; exact ⟨D.d10.nm, D.d10.kp, b_10 D, g_10 D O, k_10 D⟩
  | 11, h => cases h; exact ((show ¬ ((3 : Nat) ≤ 2) by decide) hl).elim
  | 12, h => cases h; exact ⟨D.d12.nm, D.d12.kp, b_12 D, g_12 D O, k_12 D⟩
  | 13, h => cases h; exact ⟨D.d13.nm, D.d13.kp, b_13 D, g_13 D O, k_13 D⟩
  | 14, h => cases h; exact ⟨D.d14.nm, D.d14.kp, b_14 D, g_14 D O, k_14 D⟩
  | 15, h => cases h; exact ⟨D.d15.nm, D.d15.kp, b_15 D, g_15 D O, k_15 D⟩
  | 16, h => cases h; exact ((show ¬ ((3 : Nat) ≤ 2) by decide) hl).elim
  | 17, h => cases h; exact ((show ¬ ((4 : Nat) ≤ 2) by decide) hl).elim
  | 18, h => cases h; exact ((show ¬ ((5 : Nat) ≤ 2) by decide) hl).elim
  | 19, h => cases h; exact ((show ¬ ((6 : Nat) ≤ 2) by decide) hl).elim
  | 20, h => cases h; exact ((show ¬ ((7 : Nat) ≤ 2) by decide) hl).elim
  | 21, h => cases h; exact ⟨D.d21.nm, D.d21.kp, b_21 D, g_21 D O, k_21 D⟩
  | 22, h => cases h; exact ⟨D.d22.nm, D.d22.kp, b_22 D, g_22 D O, k_22 D⟩
  | 23, h => cases h; exact ((show ¬ ((3 : Nat) ≤ 2) by decide) hl).elim
  | 24, h => cases h; exact ((show ¬ ((7 : Nat) ≤ 2) by decide) hl).elim
  | 25, h => cases h; exact ((show ¬ ((8 : Nat) ≤ 2) by decide) hl).elim
  | n + 26, h => cases h
theorem g_4 (D : Dfs K mg F FD) (O : Oth w K mg base g) : FnG PySem.Challenge.pw_fewnonzero_k85_whole_wrong_lines_of_tabl w K mg base 3 (F 4) (FD 4) ["table"] (spOf g 1 f_x_law_text) := D.d4.ok (w_2 D O) rfl sc_x_law_text (p_x_law_text g F FD)
theorem g_7 (D : Dfs K mg F FD) (O : Oth w K mg base g) : FnG PySem.Challenge.pw_fewnonzero_k85_whole_wrong_lines_of_tabl w K mg base 3 (F 7) (FD 7) ["generator", "row"] (spOf g 2 f_x_law_pick) := D.d7.ok (w_2 D O) rfl sc_x_law_pick (p_x_law_pick g F FD)
theorem g_11 (D : Dfs K mg F FD) (O : Oth w K mg base g) : FnG PySem.Challenge.pw_fewnonzero_k85_whole_wrong_lines_of_tabl w K mg base 3 (F 11) (FD 11) ["generator", "most", "wide"] (spOf g 3 f_x_law_table) := D.d11.ok (w_2 D O) rfl sc_x_law_table (p_x_law_table g F FD)
theorem g_16 (D : Dfs K mg F FD) (O : Oth w K mg base g) : FnG PySem.Challenge.pw_fewnonzero_k85_whole_wrong_lines_of_tabl w K mg base 3 (F 16) (FD 16) ["word"] (spOf g 1 f_fraction_told) := D.d16.ok (w_2 D O) rfl sc_fraction_told (p_fraction_told g F FD)
theorem g_23 (D : Dfs K mg F FD) (O : Oth w K mg base g) : FnG PySem.Challenge.pw_fewnonzero_k85_whole_wrong_lines_of_tabl w K mg base 3 (F 23) (FD 23) ["text"] (spOf g 1 f_x_law_wrong) := D.d23.ok (w_2 D O) rfl sc_x_law_wrong (p_x_law_wrong g F FD)
theorem w_3 (D : Dfs K mg F FD) (O : Oth w K mg base g) : Wd (pmv g F FD 3) PySem.Challenge.pw_fewnonzero_k85_whole_wrong_lines_of_tabl w K mg base := by
  refine ⟨O.hK, O.fr, O.cn, fun i d h hl => ?_, O.ex, O.em⟩
  match i, h with
  | 0, h => cases h; exact ⟨D.d0.nm, D.d0.kp, b_0 D, g_0 D O, k_0 D⟩
  | 1, h => cases h; exact ⟨D.d1.nm, D.d1.kp, b_1 D, g_1 D O, k_1 D⟩
  | 2, h => cases h; exact ⟨D.d2.nm, D.d2.kp, b_2 D, g_2 D O, k_2 D⟩
  | 3, h => cases h; exact ⟨D.d3.nm, D.d3.kp, b_3 D, g_3 D O, k_3 D⟩
  | 4, h => cases h; exact ⟨D.d4.nm, D.d4.kp, b_4 D, g_4 D O, k_4 D⟩
  | 5, h => cases h; exact ⟨D.d5.nm, D.d5.kp, b_5 D, g_5 D O, k_5 D⟩
  | 6, h => cases h; exact ⟨D.d6.nm, D.d6.kp, b_6 D, g_6 D O, k_6 D⟩
  | 7, h => cases h; exact ⟨D.d7.nm, D.d7.kp, b_7 D, g_7 D O, k_7 D⟩
  | 8, h => cases h; exact ((show ¬ ((4 : Nat) ≤ 3) by decide) hl).elim
  | 9, h => cases h; exact ⟨D.d9.nm, D.d9.kp, b_9 D, g_9 D O, k_9 D⟩
  | 10, h => cases h; exact ⟨D.d10.nm, D.d10.kp, b_10 D, g_10 D O, k_10 D⟩
  | 11, h => cases h; exact ⟨D.d11.nm, D.d11.kp, b_11 D, g_11 D O, k_11 D⟩
  | 12, h => cases h; exact ⟨D.d12.nm, D.d12.kp, b_12 D, g_12 D O, k_12 D⟩
  | 13, h => cases h; exact ⟨D.d13.nm, D.d13.kp, b_13 D, g_13 D O, k_13 D⟩
  | 14, h => cases h; exact ⟨D.d14.nm, D.d14.kp, b_14 D, g_14 D O, k_14 D⟩
  | 15, h => cases h; exact ⟨D.d15.nm, D.d15.kp, b_15 D, g_15 D O, k_15 D⟩
  | 16, h => cases h; exact ⟨D.d16.nm, D.d16.kp, b_16 D, g_16 D O, k_16 D⟩
  | 17, h => cases h; exact ((show ¬ ((4 : Nat) ≤ 3) by decide) hl).elim
  | 18, h => cases h; exact ((show ¬ ((5 : Nat) ≤ 3) by decide) hl).elim
  | 19, h => cases h; exact ((show ¬ ((6 : Nat) ≤ 3) by decide) hl).elim
  | 20, h => cases h; exact ((show ¬ ((7 : Nat) ≤ 3) by decide) hl).elim
  | 21, h => cases h; exact ⟨D.d21.nm, D.d21.kp, b_21 D, g_21 D O, k_21 D⟩
  | 22, h => cases h; exact ⟨D.d22.nm, D.d22.kp, b_22 D, g_22 D O, k_22 D⟩
  | 23, h => cases h; exact ⟨D.d23.nm, D.d23.kp, b_23 D, g_23 D O, k_23 D⟩
  | 24, h => cases h; exact ((show ¬ ((7 : Nat) ≤ 3) by decide) hl).elim
  | 25, h => cases h; exact ((show ¬ ((8 : Nat) ≤ 3) by decide) hl).elim
  | n + 26, h => cases h
theorem g_8 (D : Dfs K mg F FD) (O : Oth w K mg base g) : FnG PySem.Challenge.pw_fewnonzero_k85_whole_wrong_lines_of_tabl w K mg base 4 (F 8) (FD 8) ["generator", "table"] (spOf g 2 f_x_law_texts) := D.d8.ok (w_3 D O) rfl sc_x_law_texts (p_x_law_texts g F FD)
theorem g_17 (D : Dfs K mg F FD) (O : Oth w K mg base g) : FnG PySem.Challenge.pw_fewnonzero_k85_whole_wrong_lines_of_tabl w K mg base 4 (F 17) (FD 17) ["line"] (spOf g 1 f_row_told) := D.d17.ok (w_3 D O) rfl sc_row_told (p_row_told g F FD)
theorem w_4 (D : Dfs K mg F FD) (O : Oth w K mg base g) : Wd (pmv g F FD 4) PySem.Challenge.pw_fewnonzero_k85_whole_wrong_lines_of_tabl w K mg base := by
  refine ⟨O.hK, O.fr, O.cn, fun i d h hl => ?_, O.ex, O.em⟩
  match i, h with
  | 0, h => cases h; exact ⟨D.d0.nm, D.d0.kp, b_0 D, g_0 D O, k_0 D⟩
  | 1, h => cases h; exact ⟨D.d1.nm, D.d1.kp, b_1 D, g_1 D O, k_1 D⟩
  | 2, h => cases h; exact ⟨D.d2.nm, D.d2.kp, b_2 D, g_2 D O, k_2 D⟩
  | 3, h => cases h; exact ⟨D.d3.nm, D.d3.kp, b_3 D, g_3 D O, k_3 D⟩
  | 4, h => cases h; exact ⟨D.d4.nm, D.d4.kp, b_4 D, g_4 D O, k_4 D⟩
  | 5, h => cases h; exact ⟨D.d5.nm, D.d5.kp, b_5 D, g_5 D O, k_5 D⟩
  | 6, h => cases h; exact ⟨D.d6.nm, D.d6.kp, b_6 D, g_6 D O, k_6 D⟩
  | 7, h => cases h; exact ⟨D.d7.nm, D.d7.kp, b_7 D, g_7 D O, k_7 D⟩
  | 8, h => cases h; exact ⟨D.d8.nm, D.d8.kp, b_8 D, g_8 D O, k_8 D⟩
  | 9, h => cases h; exact ⟨D.d9.nm, D.d9.kp, b_9 D, g_9 D O, k_9 D⟩
  | 10, h => cases h; exact ⟨D.d10.nm, D.d10.kp, b_10 D, g_10 D O, k_10 D⟩
  | 11, h => cases h; exact ⟨D.d11.nm, D.d11.kp, b_11 D, g_11 D O, k_11 D⟩
  | 12, h => cases h; exact ⟨D.d12.nm, D.d12.kp, b_12 D, g_12 D O, k_12 D⟩
  | 13, h => cases h; exact ⟨D.d13.nm, D.d13.kp, b_13 D, g_13 D O, k_13 D⟩
  | 14, h => cases h; exact ⟨D.d14.nm, D.d14.kp, b_14 D, g_14 D O, k_14 D⟩
  | 15, h => cases h; exact ⟨D.d15.nm, D.d15.kp, b_15 D, g_15 D O, k_15 D⟩
  | 16, h => cases h; exact ⟨D.d16.nm, D.d16.kp, b_16 D, g_16 D O, k_16 D⟩
  | 17, h => cases h; exact ⟨D.d17.nm, D.d17.kp, b_17 D, g_17 D O, k_17 D⟩
  | 18, h => cases h; exact ((show ¬ ((5 : Nat) ≤ 4) by decide) hl).elim
  | 19, h => cases h; exact ((show ¬ ((6 : Nat) ≤ 4) by decide) hl).elim
  | 20, h => cases h; exact ((show ¬ ((7 : Nat) ≤ 4) by decide) hl).elim
  | 21, h => cases h; exact ⟨D.d21.nm, D.d21.kp, b_21 D, g_21 D O, k_21 D⟩
  | 22, h => cases h; exact ⟨D.d22.nm, D.d22.kp, b_22 D, g_22 D O, k_22 D⟩
  | 23, h => cases h; exact ⟨D.d23.nm, D.d23.kp, b_23 D, g_23 D O, k_23 D⟩
  | 24, h => cases h; exact ((show ¬ ((7 : Nat) ≤ 4) by decide) hl).elim
  | 25, h => cases h; exact ((show ¬ ((8 : Nat) ≤ 4) by decide) hl).elim
  | n + 26, h => cases h
theorem g_18 (D : Dfs K mg F FD) (O : Oth w K mg base g) : FnG PySem.Challenge.pw_fewnonzero_k85_whole_wrong_lines_of_tabl w K mg base 5 (F 18) (FD 18) ["lines"] (spOf g 1 f_wrong_in) := D.d18.ok (w_4 D O) rfl sc_wrong_in (p_wrong_in g F FD)
theorem w_5 (D : Dfs K mg F FD) (O : Oth w K mg base g) : Wd (pmv g F FD 5) PySem.Challenge.pw_fewnonzero_k85_whole_wrong_lines_of_tabl w K mg base := by
  refine ⟨O.hK, O.fr, O.cn, fun i d h hl => ?_, O.ex, O.em⟩
  match i, h with
  | 0, h => cases h; exact ⟨D.d0.nm, D.d0.kp, b_0 D, g_0 D O, k_0 D⟩
  | 1, h => cases h; exact ⟨D.d1.nm, D.d1.kp, b_1 D, g_1 D O, k_1 D⟩
  | 2, h => cases h; exact ⟨D.d2.nm, D.d2.kp, b_2 D, g_2 D O, k_2 D⟩
  | 3, h => cases h; exact ⟨D.d3.nm, D.d3.kp, b_3 D, g_3 D O, k_3 D⟩
  | 4, h => cases h; exact ⟨D.d4.nm, D.d4.kp, b_4 D, g_4 D O, k_4 D⟩
  | 5, h => cases h; exact ⟨D.d5.nm, D.d5.kp, b_5 D, g_5 D O, k_5 D⟩
  | 6, h => cases h; exact ⟨D.d6.nm, D.d6.kp, b_6 D, g_6 D O, k_6 D⟩
  | 7, h => cases h; exact ⟨D.d7.nm, D.d7.kp, b_7 D, g_7 D O, k_7 D⟩
  | 8, h => cases h; exact ⟨D.d8.nm, D.d8.kp, b_8 D, g_8 D O, k_8 D⟩
  | 9, h => cases h; exact ⟨D.d9.nm, D.d9.kp, b_9 D, g_9 D O, k_9 D⟩
  | 10, h => cases h; exact ⟨D.d10.nm, D.d10.kp, b_10 D, g_10 D O, k_10 D⟩
  | 11, h => cases h; exact ⟨D.d11.nm, D.d11.kp, b_11 D, g_11 D O, k_11 D⟩
  | 12, h => cases h; exact ⟨D.d12.nm, D.d12.kp, b_12 D, g_12 D O, k_12 D⟩
  | 13, h => cases h; exact ⟨D.d13.nm, D.d13.kp, b_13 D, g_13 D O, k_13 D⟩
  | 14, h => cases h; exact ⟨D.d14.nm, D.d14.kp, b_14 D, g_14 D O, k_14 D⟩
  | 15, h => cases h; exact ⟨D.d15.nm, D.d15.kp, b_15 D, g_15 D O, k_15 D⟩
  | 16, h => cases h; exact ⟨D.d16.nm, D.d16.kp, b_16 D, g_16 D O, k_16 D⟩
  | 17, h => cases h; exact ⟨D.d17.nm, D.d17.kp, b_17 D, g_17 D O, k_17 D⟩
  | 18, h => cases h; exact ⟨D.d18.nm, D.d18.kp, b_18 D, g_18 D O, k_18 D⟩
  | 19, h => cases h; exact ((show ¬ ((6 : Nat) ≤ 5) by decide) hl).elim
  | 20, h => cases h; exact ((show ¬ ((7 : Nat) ≤ 5) by decide) hl).elim
  | 21, h => cases h; exact ⟨D.d21.nm, D.d21.kp, b_21 D, g_21 D O, k_21 D⟩
  | 22, h => cases h; exact ⟨D.d22.nm, D.d22.kp, b_22 D, g_22 D O, k_22 D⟩
  | 23, h => cases h; exact ⟨D.d23.nm, D.d23.kp, b_23 D, g_23 D O, k_23 D⟩
  | 24, h => cases h; exact ((show ¬ ((7 : Nat) ≤ 5) by decide) hl).elim
  | 25, h => cases h; exact ((show ¬ ((8 : Nat) ≤ 5) by decide) hl).elim
  | n + 26, h => cases h
theorem g_19 (D : Dfs K mg F FD) (O : Oth w K mg base g) : FnG PySem.Challenge.pw_fewnonzero_k85_whole_wrong_lines_of_tabl w K mg base 6 (F 19) (FD 19) ["text"] (spOf g 1 f_wrong_by) := D.d19.ok (w_5 D O) rfl sc_wrong_by (p_wrong_by g F FD)
theorem w_6 (D : Dfs K mg F FD) (O : Oth w K mg base g) : Wd (pmv g F FD 6) PySem.Challenge.pw_fewnonzero_k85_whole_wrong_lines_of_tabl w K mg base := by
  refine ⟨O.hK, O.fr, O.cn, fun i d h hl => ?_, O.ex, O.em⟩
  match i, h with
  | 0, h => cases h; exact ⟨D.d0.nm, D.d0.kp, b_0 D, g_0 D O, k_0 D⟩
  | 1, h => cases h; exact ⟨D.d1.nm, D.d1.kp, b_1 D, g_1 D O, k_1 D⟩
  | 2, h => cases h; exact ⟨D.d2.nm, D.d2.kp, b_2 D, g_2 D O, k_2 D⟩
  | 3, h => cases h; exact ⟨D.d3.nm, D.d3.kp, b_3 D, g_3 D O, k_3 D⟩
  | 4, h => cases h; exact ⟨D.d4.nm, D.d4.kp, b_4 D, g_4 D O, k_4 D⟩
  | 5, h => cases h; exact ⟨D.d5.nm, D.d5.kp, b_5 D, g_5 D O, k_5 D⟩
  | 6, h => cases h; exact ⟨D.d6.nm, D.d6.kp, b_6 D, g_6 D O, k_6 D⟩
  | 7, h => cases h; exact ⟨D.d7.nm, D.d7.kp, b_7 D, g_7 D O, k_7 D⟩
  | 8, h => cases h; exact ⟨D.d8.nm, D.d8.kp, b_8 D, g_8 D O, k_8 D⟩
  | 9, h => cases h; exact ⟨D.d9.nm, D.d9.kp, b_9 D, g_9 D O, k_9 D⟩
  | 10, h => cases h; exact ⟨D.d10.nm, D.d10.kp, b_10 D, g_10 D O, k_10 D⟩
  | 11, h => cases h; exact ⟨D.d11.nm, D.d11.kp, b_11 D, g_11 D O, k_11 D⟩
  | 12, h => cases h; exact ⟨D.d12.nm, D.d12.kp, b_12 D, g_12 D O, k_12 D⟩
  | 13, h => cases h; exact ⟨D.d13.nm, D.d13.kp, b_13 D, g_13 D O, k_13 D⟩
  | 14, h => cases h; exact ⟨D.d14.nm, D.d14.kp, b_14 D, g_14 D O, k_14 D⟩
  | 15, h => cases h; exact ⟨D.d15.nm, D.d15.kp, b_15 D, g_15 D O, k_15 D⟩
  | 16, h => cases h; exact ⟨D.d16.nm, D.d16.kp, b_16 D, g_16 D O, k_16 D⟩
  | 17, h => cases h; exact ⟨D.d17.nm, D.d17.kp, b_17 D, g_17 D O, k_17 D⟩
  | 18, h => cases h; exact ⟨D.d18.nm, D.d18.kp, b_18 D, g_18 D O, k_18 D⟩
  | 19, h => cases h; exact ⟨D.d19.nm, D.d19.kp, b_19 D, g_19 D O, k_19 D⟩
  | 20, h => cases h; exact ((show ¬ ((7 : Nat) ≤ 6) by decide) hl).elim
  | 21, h => cases h; exact ⟨D.d21.nm, D.d21.kp, b_21 D, g_21 D O, k_21 D⟩
  | 22, h => cases h; exact ⟨D.d22.nm, D.d22.kp, b_22 D, g_22 D O, k_22 D⟩
  | 23, h => cases h; exact ⟨D.d23.nm, D.d23.kp, b_23 D, g_23 D O, k_23 D⟩
  | 24, h => cases h; exact ((show ¬ ((7 : Nat) ≤ 6) by decide) hl).elim
  | 25, h => cases h; exact ((show ¬ ((8 : Nat) ≤ 6) by decide) hl).elim
  | n + 26, h => cases h
theorem g_20 (D : Dfs K mg F FD) (O : Oth w K mg base g) : FnG PySem.Challenge.pw_fewnonzero_k85_whole_wrong_lines_of_tabl w K mg base 7 (F 20) (FD 20) ["text"] (spOf g 1 f_wrong_line) := D.d20.ok (w_6 D O) rfl sc_wrong_line (p_wrong_line g F FD)
theorem g_24 (D : Dfs K mg F FD) (O : Oth w K mg base g) : FnG PySem.Challenge.pw_fewnonzero_k85_whole_wrong_lines_of_tabl w K mg base 7 (F 24) (FD 24) ["text"] (spOf g 1 f_read_table) := D.d24.ok (w_6 D O) rfl sc_read_table (p_read_table g F FD)
theorem w_7 (D : Dfs K mg F FD) (O : Oth w K mg base g) : Wd (pmv g F FD 7) PySem.Challenge.pw_fewnonzero_k85_whole_wrong_lines_of_tabl w K mg base := by
  refine ⟨O.hK, O.fr, O.cn, fun i d h hl => ?_, O.ex, O.em⟩
  match i, h with
  | 0, h => cases h; exact ⟨D.d0.nm, D.d0.kp, b_0 D, g_0 D O, k_0 D⟩
  | 1, h => cases h; exact ⟨D.d1.nm, D.d1.kp, b_1 D, g_1 D O, k_1 D⟩
  | 2, h => cases h; exact ⟨D.d2.nm, D.d2.kp, b_2 D, g_2 D O, k_2 D⟩
  | 3, h => cases h; exact ⟨D.d3.nm, D.d3.kp, b_3 D, g_3 D O, k_3 D⟩
  | 4, h => cases h; exact ⟨D.d4.nm, D.d4.kp, b_4 D, g_4 D O, k_4 D⟩
  | 5, h => cases h; exact ⟨D.d5.nm, D.d5.kp, b_5 D, g_5 D O, k_5 D⟩
  | 6, h => cases h; exact ⟨D.d6.nm, D.d6.kp, b_6 D, g_6 D O, k_6 D⟩
  | 7, h => cases h; exact ⟨D.d7.nm, D.d7.kp, b_7 D, g_7 D O, k_7 D⟩
  | 8, h => cases h; exact ⟨D.d8.nm, D.d8.kp, b_8 D, g_8 D O, k_8 D⟩
  | 9, h => cases h; exact ⟨D.d9.nm, D.d9.kp, b_9 D, g_9 D O, k_9 D⟩
  | 10, h => cases h; exact ⟨D.d10.nm, D.d10.kp, b_10 D, g_10 D O, k_10 D⟩
  | 11, h => cases h; exact ⟨D.d11.nm, D.d11.kp, b_11 D, g_11 D O, k_11 D⟩
  | 12, h => cases h; exact ⟨D.d12.nm, D.d12.kp, b_12 D, g_12 D O, k_12 D⟩
  | 13, h => cases h; exact ⟨D.d13.nm, D.d13.kp, b_13 D, g_13 D O, k_13 D⟩
  | 14, h => cases h; exact ⟨D.d14.nm, D.d14.kp, b_14 D, g_14 D O, k_14 D⟩
  | 15, h => cases h; exact ⟨D.d15.nm, D.d15.kp, b_15 D, g_15 D O, k_15 D⟩
  | 16, h => cases h; exact ⟨D.d16.nm, D.d16.kp, b_16 D, g_16 D O, k_16 D⟩
  | 17, h => cases h; exact ⟨D.d17.nm, D.d17.kp, b_17 D, g_17 D O, k_17 D⟩
  | 18, h => cases h; exact ⟨D.d18.nm, D.d18.kp, b_18 D, g_18 D O, k_18 D⟩
  | 19, h => cases h; exact ⟨D.d19.nm, D.d19.kp, b_19 D, g_19 D O, k_19 D⟩
  | 20, h => cases h; exact ⟨D.d20.nm, D.d20.kp, b_20 D, g_20 D O, k_20 D⟩
  | 21, h => cases h; exact ⟨D.d21.nm, D.d21.kp, b_21 D, g_21 D O, k_21 D⟩
  | 22, h => cases h; exact ⟨D.d22.nm, D.d22.kp, b_22 D, g_22 D O, k_22 D⟩
  | 23, h => cases h; exact ⟨D.d23.nm, D.d23.kp, b_23 D, g_23 D O, k_23 D⟩
  | 24, h => cases h; exact ⟨D.d24.nm, D.d24.kp, b_24 D, g_24 D O, k_24 D⟩
  | 25, h => cases h; exact ((show ¬ ((8 : Nat) ≤ 7) by decide) hl).elim
  | n + 26, h => cases h
theorem g_25 (D : Dfs K mg F FD) (O : Oth w K mg base g) : FnG PySem.Challenge.pw_fewnonzero_k85_whole_wrong_lines_of_tabl w K mg base 8 (F 25) (FD 25) ["script"] (spOf g 1 f_law) := D.d25.ok (w_7 D O) rfl sc_law (p_law g F FD)
end
/-- what is left: the plain law -/
def Plain : Prop := ∀ ns : List Int, ns.length ≤ 63 → (∀ z ∈ ns, Builtin.Int.intBits z ≤ 1048576) → ∃ ρ, f_law [some (.d (.list (ns.map .int)))] = .ok (.d (.bool true)) ρ
theorem all_ok (pl : Plain) {w : World} {K : PySem.W.Frag} {h : Heap} {mg : Str → Option Value} {fa : Addr} (X : K.In h) (G : h.Ns mainGlobals mg) (hfa : mg "law" = some (.ref fa))
  {f0 : Addr} {oc0 kV0 dc0 pm0 cd0 ct0 : Value} {od0 an0 : Option Addr} {sl0 : Array (Option Value)}
  (a0 : PySem.W.nsIn K mainGlobals "_law_cell" = some (some (.ref f0))) (l0 : K.lookup f0 = some ⟨oc0, od0, .func (PySem.W.fnOf "_law_cell" "_law_cell" (defArgs (top 22)) (defBody (top 22)) (defScope (top 22)) .none kV0 dc0 pm0 an0 cd0 ct0), sl0⟩) (c0 : PySem.W.codeIn K cd0 "_law_cell" = true) (k0 : PySem.W.keepIn K (.ref f0) = true)
  {f1 : Addr} {oc1 kV1 dc1 pm1 cd1 ct1 : Value} {od1 an1 : Option Addr} {sl1 : Array (Option Value)}
  (a1 : PySem.W.nsIn K mainGlobals "_law_generator" = some (some (.ref f1))) (l1 : K.lookup f1 = some ⟨oc1, od1, .func (PySem.W.fnOf "_law_generator" "_law_generator" (defArgs (top 23)) (defBody (top 23)) (defScope (top 23)) .none kV1 dc1 pm1 an1 cd1 ct1), sl1⟩) (c1 : PySem.W.codeIn K cd1 "_law_generator" = true) (k1 : PySem.W.keepIn K (.ref f1) = true)
  {f2 : Addr} {oc2 kV2 dc2 pm2 cd2 ct2 : Value} {od2 an2 : Option Addr} {sl2 : Array (Option Value)}
  (a2 : PySem.W.nsIn K mainGlobals "_law_word" = some (some (.ref f2))) (l2 : K.lookup f2 = some ⟨oc2, od2, .func (PySem.W.fnOf "_law_word" "_law_word" (defArgs (top 28)) (defBody (top 28)) (defScope (top 28)) .none kV2 dc2 pm2 an2 cd2 ct2), sl2⟩) (c2 : PySem.W.codeIn K cd2 "_law_word" = true) (k2 : PySem.W.keepIn K (.ref f2) = true)
  {f3 : Addr} {oc3 kV3 dc3 pm3 cd3 ct3 : Value} {od3 an3 : Option Addr} {sl3 : Array (Option Value)}
  (a3 : PySem.W.nsIn K mainGlobals "_law_words" = some (some (.ref f3))) (l3 : K.lookup f3 = some ⟨oc3, od3, .func (PySem.W.fnOf "_law_words" "_law_words" (defArgs (top 29)) (defBody (top 29)) (defScope (top 29)) .none kV3 dc3 pm3 an3 cd3 ct3), sl3⟩) (c3 : PySem.W.codeIn K cd3 "_law_words" = true) (k3 : PySem.W.keepIn K (.ref f3) = true)
  {f4 : Addr} {oc4 kV4 dc4 pm4 cd4 ct4 : Value} {od4 an4 : Option Addr} {sl4 : Array (Option Value)}
  (a4 : PySem.W.nsIn K mainGlobals "_law_text" = some (some (.ref f4))) (l4 : K.lookup f4 = some ⟨oc4, od4, .func (PySem.W.fnOf "_law_text" "_law_text" (defArgs (top 30)) (defBody (top 30)) (defScope (top 30)) .none kV4 dc4 pm4 an4 cd4 ct4), sl4⟩) (c4 : PySem.W.codeIn K cd4 "_law_text" = true) (k4 : PySem.W.keepIn K (.ref f4) = true)
  {f5 : Addr} {oc5 kV5 dc5 pm5 cd5 ct5 : Value} {od5 an5 : Option Addr} {sl5 : Array (Option Value)}
  (a5 : PySem.W.nsIn K mainGlobals "_law_hash" = some (some (.ref f5))) (l5 : K.lookup f5 = some ⟨oc5, od5, .func (PySem.W.fnOf "_law_hash" "_law_hash" (defArgs (top 20)) (defBody (top 20)) (defScope (top 20)) .none kV5 dc5 pm5 an5 cd5 ct5), sl5⟩) (c5 : PySem.W.codeIn K cd5 "_law_hash" = true) (k5 : PySem.W.keepIn K (.ref f5) = true)
  {f6 : Addr} {oc6 kV6 dc6 pm6 cd6 ct6 : Value} {od6 an6 : Option Addr} {sl6 : Array (Option Value)}
  (a6 : PySem.W.nsIn K mainGlobals "_law_random" = some (some (.ref f6))) (l6 : K.lookup f6 = some ⟨oc6, od6, .func (PySem.W.fnOf "_law_random" "_law_random" (defArgs (top 21)) (defBody (top 21)) (defScope (top 21)) .none kV6 dc6 pm6 an6 cd6 ct6), sl6⟩) (c6 : PySem.W.codeIn K cd6 "_law_random" = true) (k6 : PySem.W.keepIn K (.ref f6) = true)
  {f7 : Addr} {oc7 kV7 dc7 pm7 cd7 ct7 : Value} {od7 an7 : Option Addr} {sl7 : Array (Option Value)}
  (a7 : PySem.W.nsIn K mainGlobals "_law_pick" = some (some (.ref f7))) (l7 : K.lookup f7 = some ⟨oc7, od7, .func (PySem.W.fnOf "_law_pick" "_law_pick" (defArgs (top 24)) (defBody (top 24)) (defScope (top 24)) .none kV7 dc7 pm7 an7 cd7 ct7), sl7⟩) (c7 : PySem.W.codeIn K cd7 "_law_pick" = true) (k7 : PySem.W.keepIn K (.ref f7) = true)
  {f8 : Addr} {oc8 kV8 dc8 pm8 cd8 ct8 : Value} {od8 an8 : Option Addr} {sl8 : Array (Option Value)}
  (a8 : PySem.W.nsIn K mainGlobals "_law_texts" = some (some (.ref f8))) (l8 : K.lookup f8 = some ⟨oc8, od8, .func (PySem.W.fnOf "_law_texts" "_law_texts" (defArgs (top 34)) (defBody (top 34)) (defScope (top 34)) .none kV8 dc8 pm8 an8 cd8 ct8), sl8⟩) (c8 : PySem.W.codeIn K cd8 "_law_texts" = true) (k8 : PySem.W.keepIn K (.ref f8) = true)
  {f9 : Addr} {oc9 kV9 dc9 pm9 cd9 ct9 : Value} {od9 an9 : Option Addr} {sl9 : Array (Option Value)}
  (a9 : PySem.W.nsIn K mainGlobals "_law_lowest" = some (some (.ref f9))) (l9 : K.lookup f9 = some ⟨oc9, od9, .func (PySem.W.fnOf "_law_lowest" "_law_lowest" (defArgs (top 25)) (defBody (top 25)) (defScope (top 25)) .none kV9 dc9 pm9 an9 cd9 ct9), sl9⟩) (c9 : PySem.W.codeIn K cd9 "_law_lowest" = true) (k9 : PySem.W.keepIn K (.ref f9) = true)
  {f10 : Addr} {oc10 kV10 dc10 pm10 cd10 ct10 : Value} {od10 an10 : Option Addr} {sl10 : Array (Option Value)}
  (a10 : PySem.W.nsIn K mainGlobals "_law_times" = some (some (.ref f10))) (l10 : K.lookup f10 = some ⟨oc10, od10, .func (PySem.W.fnOf "_law_times" "_law_times" (defArgs (top 26)) (defBody (top 26)) (defScope (top 26)) .none kV10 dc10 pm10 an10 cd10 ct10), sl10⟩) (c10 : PySem.W.codeIn K cd10 "_law_times" = true) (k10 : PySem.W.keepIn K (.ref f10) = true)
  {f11 : Addr} {oc11 kV11 dc11 pm11 cd11 ct11 : Value} {od11 an11 : Option Addr} {sl11 : Array (Option Value)}
  (a11 : PySem.W.nsIn K mainGlobals "_law_table" = some (some (.ref f11))) (l11 : K.lookup f11 = some ⟨oc11, od11, .func (PySem.W.fnOf "_law_table" "_law_table" (defArgs (top 27)) (defBody (top 27)) (defScope (top 27)) .none kV11 dc11 pm11 an11 cd11 ct11), sl11⟩) (c11 : PySem.W.codeIn K cd11 "_law_table" = true) (k11 : PySem.W.keepIn K (.ref f11) = true)
  {f12 : Addr} {oc12 kV12 dc12 pm12 cd12 ct12 : Value} {od12 an12 : Option Addr} {sl12 : Array (Option Value)}
  (a12 : PySem.W.nsIn K mainGlobals "common_divisor" = some (some (.ref f12))) (l12 : K.lookup f12 = some ⟨oc12, od12, .func (PySem.W.fnOf "common_divisor" "common_divisor" (defArgs (top 4)) (defBody (top 4)) (defScope (top 4)) .none kV12 dc12 pm12 an12 cd12 ct12), sl12⟩) (c12 : PySem.W.codeIn K cd12 "common_divisor" = true) (k12 : PySem.W.keepIn K (.ref f12) = true)
  {f13 : Addr} {oc13 kV13 dc13 pm13 cd13 ct13 : Value} {od13 an13 : Option Addr} {sl13 : Array (Option Value)}
  (a13 : PySem.W.nsIn K mainGlobals "lowest" = some (some (.ref f13))) (l13 : K.lookup f13 = some ⟨oc13, od13, .func (PySem.W.fnOf "lowest" "lowest" (defArgs (top 5)) (defBody (top 5)) (defScope (top 5)) .none kV13 dc13 pm13 an13 cd13 ct13), sl13⟩) (c13 : PySem.W.codeIn K cd13 "lowest" = true) (k13 : PySem.W.keepIn K (.ref f13) = true)
  {f14 : Addr} {oc14 kV14 dc14 pm14 cd14 ct14 : Value} {od14 an14 : Option Addr} {sl14 : Array (Option Value)}
  (a14 : PySem.W.nsIn K mainGlobals "fraction_words" = some (some (.ref f14))) (l14 : K.lookup f14 = some ⟨oc14, od14, .func (PySem.W.fnOf "fraction_words" "fraction_words" (defArgs (top 11)) (defBody (top 11)) (defScope (top 11)) .none kV14 dc14 pm14 an14 cd14 ct14), sl14⟩) (c14 : PySem.W.codeIn K cd14 "fraction_words" = true) (k14 : PySem.W.keepIn K (.ref f14) = true)
  {f15 : Addr} {oc15 kV15 dc15 pm15 cd15 ct15 : Value} {od15 an15 : Option Addr} {sl15 : Array (Option Value)}
  (a15 : PySem.W.nsIn K mainGlobals "is_digits" = some (some (.ref f15))) (l15 : K.lookup f15 = some ⟨oc15, od15, .func (PySem.W.fnOf "is_digits" "is_digits" (defArgs (top 12)) (defBody (top 12)) (defScope (top 12)) .none kV15 dc15 pm15 an15 cd15 ct15), sl15⟩) (c15 : PySem.W.codeIn K cd15 "is_digits" = true) (k15 : PySem.W.keepIn K (.ref f15) = true)
  {f16 : Addr} {oc16 kV16 dc16 pm16 cd16 ct16 : Value} {od16 an16 : Option Addr} {sl16 : Array (Option Value)}
  (a16 : PySem.W.nsIn K mainGlobals "fraction_told" = some (some (.ref f16))) (l16 : K.lookup f16 = some ⟨oc16, od16, .func (PySem.W.fnOf "fraction_told" "fraction_told" (defArgs (top 13)) (defBody (top 13)) (defScope (top 13)) .none kV16 dc16 pm16 an16 cd16 ct16), sl16⟩) (c16 : PySem.W.codeIn K cd16 "fraction_told" = true) (k16 : PySem.W.keepIn K (.ref f16) = true)
  {f17 : Addr} {oc17 kV17 dc17 pm17 cd17 ct17 : Value} {od17 an17 : Option Addr} {sl17 : Array (Option Value)}
  (a17 : PySem.W.nsIn K mainGlobals "row_told" = some (some (.ref f17))) (l17 : K.lookup f17 = some ⟨oc17, od17, .func (PySem.W.fnOf "row_told" "row_told" (defArgs (top 14)) (defBody (top 14)) (defScope (top 14)) .none kV17 dc17 pm17 an17 cd17 ct17), sl17⟩) (c17 : PySem.W.codeIn K cd17 "row_told" = true) (k17 : PySem.W.keepIn K (.ref f17) = true)
  {f18 : Addr} {oc18 kV18 dc18 pm18 cd18 ct18 : Value} {od18 an18 : Option Addr} {sl18 : Array (Option Value)}
  (a18 : PySem.W.nsIn K mainGlobals "wrong_in" = some (some (.ref f18))) (l18 : K.lookup f18 = some ⟨oc18, od18, .func (PySem.W.fnOf "wrong_in" "wrong_in" (defArgs (top 15)) (defBody (top 15)) (defScope (top 15)) .none kV18 dc18 pm18 an18 cd18 ct18), sl18⟩) (c18 : PySem.W.codeIn K cd18 "wrong_in" = true) (k18 : PySem.W.keepIn K (.ref f18) = true)
  {f19 : Addr} {oc19 kV19 dc19 pm19 cd19 ct19 : Value} {od19 an19 : Option Addr} {sl19 : Array (Option Value)}
  (a19 : PySem.W.nsIn K mainGlobals "wrong_by" = some (some (.ref f19))) (l19 : K.lookup f19 = some ⟨oc19, od19, .func (PySem.W.fnOf "wrong_by" "wrong_by" (defArgs (top 16)) (defBody (top 16)) (defScope (top 16)) .none kV19 dc19 pm19 an19 cd19 ct19), sl19⟩) (c19 : PySem.W.codeIn K cd19 "wrong_by" = true) (k19 : PySem.W.keepIn K (.ref f19) = true)
  {f20 : Addr} {oc20 kV20 dc20 pm20 cd20 ct20 : Value} {od20 an20 : Option Addr} {sl20 : Array (Option Value)}
  (a20 : PySem.W.nsIn K mainGlobals "wrong_line" = some (some (.ref f20))) (l20 : K.lookup f20 = some ⟨oc20, od20, .func (PySem.W.fnOf "wrong_line" "wrong_line" (defArgs (top 17)) (defBody (top 17)) (defScope (top 17)) .none kV20 dc20 pm20 an20 cd20 ct20), sl20⟩) (c20 : PySem.W.codeIn K cd20 "wrong_line" = true) (k20 : PySem.W.keepIn K (.ref f20) = true)
  {f21 : Addr} {oc21 kV21 dc21 pm21 cd21 ct21 : Value} {od21 an21 : Option Addr} {sl21 : Array (Option Value)}
  (a21 : PySem.W.nsIn K mainGlobals "_law_digits" = some (some (.ref f21))) (l21 : K.lookup f21 = some ⟨oc21, od21, .func (PySem.W.fnOf "_law_digits" "_law_digits" (defArgs (top 31)) (defBody (top 31)) (defScope (top 31)) .none kV21 dc21 pm21 an21 cd21 ct21), sl21⟩) (c21 : PySem.W.codeIn K cd21 "_law_digits" = true) (k21 : PySem.W.keepIn K (.ref f21) = true)
  {f22 : Addr} {oc22 kV22 dc22 pm22 cd22 ct22 : Value} {od22 an22 : Option Addr} {sl22 : Array (Option Value)}
  (a22 : PySem.W.nsIn K mainGlobals "_law_read_number" = some (some (.ref f22))) (l22 : K.lookup f22 = some ⟨oc22, od22, .func (PySem.W.fnOf "_law_read_number" "_law_read_number" (defArgs (top 32)) (defBody (top 32)) (defScope (top 32)) .none kV22 dc22 pm22 an22 cd22 ct22), sl22⟩) (c22 : PySem.W.codeIn K cd22 "_law_read_number" = true) (k22 : PySem.W.keepIn K (.ref f22) = true)
  {f23 : Addr} {oc23 kV23 dc23 pm23 cd23 ct23 : Value} {od23 an23 : Option Addr} {sl23 : Array (Option Value)}
  (a23 : PySem.W.nsIn K mainGlobals "_law_wrong" = some (some (.ref f23))) (l23 : K.lookup f23 = some ⟨oc23, od23, .func (PySem.W.fnOf "_law_wrong" "_law_wrong" (defArgs (top 33)) (defBody (top 33)) (defScope (top 33)) .none kV23 dc23 pm23 an23 cd23 ct23), sl23⟩) (c23 : PySem.W.codeIn K cd23 "_law_wrong" = true) (k23 : PySem.W.keepIn K (.ref f23) = true)
  {f24 : Addr} {oc24 kV24 dc24 pm24 cd24 ct24 : Value} {od24 an24 : Option Addr} {sl24 : Array (Option Value)}
  (a24 : PySem.W.nsIn K mainGlobals "read_table" = some (some (.ref f24))) (l24 : K.lookup f24 = some ⟨oc24, od24, .func (PySem.W.fnOf "read_table" "read_table" (defArgs (top 18)) (defBody (top 18)) (defScope (top 18)) .none kV24 dc24 pm24 an24 cd24 ct24), sl24⟩) (c24 : PySem.W.codeIn K cd24 "read_table" = true) (k24 : PySem.W.keepIn K (.ref f24) = true)
  {f25 : Addr} {oc25 kV25 dc25 pm25 cd25 ct25 : Value} {od25 an25 : Option Addr} {sl25 : Array (Option Value)}
  (a25 : PySem.W.nsIn K mainGlobals "law" = some (some (.ref f25))) (l25 : K.lookup f25 = some ⟨oc25, od25, .func (PySem.W.fnOf "law" "law" (defArgs (top 35)) (defBody (top 35)) (defScope (top 35)) .none kV25 dc25 pm25 an25 cd25 ct25), sl25⟩) (c25 : PySem.W.codeIn K cd25 "law" = true) (k25 : PySem.W.keepIn K (.ref f25) = true)
  (z0 : PySem.W.nsIn K mainGlobals "abs" = some none)
  (z1 : PySem.W.nsIn K mainGlobals "all" = some none)
  (z2 : PySem.W.nsIn K mainGlobals "any" = some none)
  (z3 : PySem.W.nsIn K mainGlobals "bool" = some none)
  (z4 : PySem.W.nsIn K mainGlobals "enumerate" = some none)
  (z5 : PySem.W.nsIn K mainGlobals "int" = some none)
  (z6 : PySem.W.nsIn K mainGlobals "isinstance" = some none)
  (z7 : PySem.W.nsIn K mainGlobals "len" = some none)
  (z8 : PySem.W.nsIn K mainGlobals "list" = some none)
  (z9 : PySem.W.nsIn K mainGlobals "max" = some none)
  (z10 : PySem.W.nsIn K mainGlobals "min" = some none)
  (z11 : PySem.W.nsIn K mainGlobals "ord" = some none)
  (z12 : PySem.W.nsIn K mainGlobals "range" = some none)
  (z13 : PySem.W.nsIn K mainGlobals "repr" = some none)
  (z14 : PySem.W.nsIn K mainGlobals "sorted" = some none)
  (z15 : PySem.W.nsIn K mainGlobals "str" = some none)
  (z16 : PySem.W.nsIn K mainGlobals "sum" = some none)
  (z17 : PySem.W.nsIn K mainGlobals "tuple" = some none)
  (z18 : PySem.W.nsIn K mainGlobals "zip" = some none)
  {tk0 : Tok} (cn0 : PySem.W.nsIn K mainGlobals "MOST_ROWS" = some (some (.int 5 tk0)))
  {tk1 : Tok} (cn1 : PySem.W.nsIn K mainGlobals "MOST_COLUMNS" = some (some (.int 8 tk1)))
  {tk2 : Tok} (cn2 : PySem.W.nsIn K mainGlobals "END" = some (some (.str "\n" tk2)))
  {tk3 : Tok} (cn3 : PySem.W.nsIn K mainGlobals "FIGURES" = some (some (.int 9 tk3)))
  {Dd fI T cda cc : Addr} {xoc xkV xdc xpm xct ccl clv tcl : Value} {xod xan cdd cld tdd : Option Addr} {xsl ccs csl tsl : Array (Option Value)} {fvs : Array Value} {ffl : Str} {ftf : Tok} {cdD : ClassData} {tn : Nat}
  (il : K.lookup fI = some ⟨xoc, xod, .func (PySem.W.ksFn "__init__" "FewError.__init__" (defArgs fewInit) (defBody fewInit) (defScope fewInit) (.ref T) xkV xdc xpm xan (.ref cda) xct cc), xsl⟩) (ic : PySem.W.codeIn K (.ref cda) "FewError.__init__" = true) (ifl : K.lookup cda = some ⟨ccl, cdd, .fields fvs, ccs⟩) (ifv : fvs[2]? = some (.str ffl ftf)) (ifn : ((PySem.Challenge.pw_fewnonzero_k85_whole_wrong_lines_of_tabl.main.file : Str) == ffl) = true) (icell : K.lookup cc = some ⟨clv, cld, .cell (some (.ref Dd)), csl⟩) (icls : PySem.W.clsIn K Dd = some cdD) (iany : PySem.W.nsIn K PySem.cStatics "thirdparty.any" = some none) (isup : PySem.W.nsIn K mainGlobals "super" = some none) (iT : K.lookup T = some ⟨tcl, tdd, .seq #[.none] tn, tsl⟩)
  {C0 : Addr} {xnm0 xq0 : Str} {xN0 : Addr} {xbs0 xbm0 xsb0 : List Value} {xsn0 : List Str} {xab0 : Bool} {xcol0 : Option Bool} {xdd0 : Option Addr} {m00 m10 m20 m30 m50 : Option Value}
  (xa0 : PySem.W.nsIn K mainGlobals "InvalidText" = some (some (.ref C0))) (xl0 : K.lookup C0 = some (excClassObj xnm0 xq0 C0 xN0 xbs0 xbm0 true xsn0 xsb0 xab0 xcol0 xdd0 m00 m10 m20 m30 m50 "ValueError.__new__")) (xr0 : PySem.HandSPX.refsVE xbm0 = true)
  (xsa0 : PySem.W.findIn K (.ref C0) "__setattr__" = some (some (.builtin "object.__setattr__"))) (xex0 : PySem.W.subIn K (.ref C0) (.type "BaseException") = some true) (xty0 : PySem.W.typeIn K (.ref C0) = some (.type "type")) (xk0 : PySem.W.keepIn K (.ref C0) = true) (xm0 : PySem.W.mroIn K C0 (.ref Dd) = some true) (xs0 : PySem.W.ks_superIn K C0 Dd "__init__" = some (some (.builtin "ValueError.__init__"))) (xv0 : PySem.W.subIn K (.ref C0) (.type "ValueError") = some true) (xf0 : PySem.W.findIn K (.ref C0) "value" = some none) (xi0 : PySem.W.findIn K (.ref C0) "__init__" = some (some (.ref fI))) (xti0 : PySem.W.typeIn K (.ref fI) = some (.type "function"))
  (e0_0 : PySem.W.exmOne K (.ref C0) (.ref C0) = some (xsub 0 0)) :
  ∃ (g : G0) (fd : FuncData) (Φ : SE), (∀ (s : Shared) (u : Value), BindsTo s fd ⟨[u], []⟩ [("script", u)]) ∧ (∀ ns : List Int, ns.length ≤ 63 → (∀ z ∈ ns, Builtin.Int.intBits z ≤ 1048576) → ∃ ρ, Φ [some (.d (.list (ns.map .int)))] = .ok (.d (.bool true)) ρ) ∧ ∀ base : Heap, K.In base → base.Ns mainGlobals mg → FnG PySem.Challenge.pw_fewnonzero_k85_whole_wrong_lines_of_tabl w K mg base 8 fa fd ["script"] (spOf g 1 Φ) := by
  have e := hfa.symm.trans (PySem.W.mg_of X G a25)
  cases e
  let F : Nat → Addr := fun | 0 => f0 | 1 => f1 | 2 => f2 | 3 => f3 | 4 => f4 | 5 => f5 | 6 => f6 | 7 => f7 | 8 => f8 | 9 => f9 | 10 => f10 | 11 => f11 | 12 => f12 | 13 => f13 | 14 => f14 | 15 => f15 | 16 => f16 | 17 => f17 | 18 => f18 | 19 => f19 | 20 => f20 | 21 => f21 | 22 => f22 | 23 => f23 | 24 => f24 | 25 => fa | _ => 0
  let FD : Nat → FuncData := fun | 0 => PySem.W.fnOf "_law_cell" "_law_cell" (defArgs (top 22)) (defBody (top 22)) (defScope (top 22)) .none kV0 dc0 pm0 an0 cd0 ct0 | 1 => PySem.W.fnOf "_law_generator" "_law_generator" (defArgs (top 23)) (defBody (top 23)) (defScope (top 23)) .none kV1 dc1 pm1 an1 cd1 ct1 | 2 => PySem.W.fnOf "_law_word" "_law_word" (defArgs (top 28)) (defBody (top 28)) (defScope (top 28)) .none kV2 dc2 pm2 an2 cd2 ct2 | 3 => PySem.W.fnOf "_law_words" "_law_words" (defArgs (top 29)) (defBody (top 29)) (defScope (top 29)) .none kV3 dc3 pm3 an3 cd3 ct3 | 4 => PySem.W.fnOf "_law_text" "_law_text" (defArgs (top 30)) (defBody (top 30)) (defScope (top 30)) .none kV4 dc4 pm4 an4 cd4 ct4 | 5 => PySem.W.fnOf "_law_hash" "_law_hash" (defArgs (top 20)) (defBody (top 20)) (defScope (top 20)) .none kV5 dc5 pm5 an5 cd5 ct5 | 6 => PySem.W.fnOf "_law_random" "_law_random" (defArgs (top 21)) (defBody (top 21)) (defScope (top 21)) .none kV6 dc6 pm6 an6 cd6 ct6 | 7 => PySem.W.fnOf "_law_pick" "_law_pick" (defArgs (top 24)) (defBody (top 24)) (defScope (top 24)) .none kV7 dc7 pm7 an7 cd7 ct7 | 8 => PySem.W.fnOf "_law_texts" "_law_texts" (defArgs (top 34)) (defBody (top 34)) (defScope (top 34)) .none kV8 dc8 pm8 an8 cd8 ct8 | 9 => PySem.W.fnOf "_law_lowest" "_law_lowest" (defArgs (top 25)) (defBody (top 25)) (defScope (top 25)) .none kV9 dc9 pm9 an9 cd9 ct9 | 10 => PySem.W.fnOf "_law_times" "_law_times" (defArgs (top 26)) (defBody (top 26)) (defScope (top 26)) .none kV10 dc10 pm10 an10 cd10 ct10 | 11 => PySem.W.fnOf "_law_table" "_law_table" (defArgs (top 27)) (defBody (top 27)) (defScope (top 27)) .none kV11 dc11 pm11 an11 cd11 ct11 | 12 => PySem.W.fnOf "common_divisor" "common_divisor" (defArgs (top 4)) (defBody (top 4)) (defScope (top 4)) .none kV12 dc12 pm12 an12 cd12 ct12 | 13 => PySem.W.fnOf "lowest" "lowest" (defArgs (top 5)) (defBody (top 5)) (defScope (top 5)) .none kV13 dc13 pm13 an13 cd13 ct13 | 14 => PySem.W.fnOf "fraction_words" "fraction_words" (defArgs (top 11)) (defBody (top 11)) (defScope (top 11)) .none kV14 dc14 pm14 an14 cd14 ct14 | 15 => PySem.W.fnOf "is_digits" "is_digits" (defArgs (top 12)) (defBody (top 12)) (defScope (top 12)) .none kV15 dc15 pm15 an15 cd15 ct15 | 16 => PySem.W.fnOf "fraction_told" "fraction_told" (defArgs (top 13)) (defBody (top 13)) (defScope (top 13)) .none kV16 dc16 pm16 an16 cd16 ct16 | 17 => PySem.W.fnOf "row_told" "row_told" (defArgs (top 14)) (defBody (top 14)) (defScope (top 14)) .none kV17 dc17 pm17 an17 cd17 ct17 | 18 => PySem.W.fnOf "wrong_in" "wrong_in" (defArgs (top 15)) (defBody (top 15)) (defScope (top 15)) .none kV18 dc18 pm18 an18 cd18 ct18 | 19 => PySem.W.fnOf "wrong_by" "wrong_by" (defArgs (top 16)) (defBody (top 16)) (defScope (top 16)) .none kV19 dc19 pm19 an19 cd19 ct19 | 20 => PySem.W.fnOf "wrong_line" "wrong_line" (defArgs (top 17)) (defBody (top 17)) (defScope (top 17)) .none kV20 dc20 pm20 an20 cd20 ct20 | 21 => PySem.W.fnOf "_law_digits" "_law_digits" (defArgs (top 31)) (defBody (top 31)) (defScope (top 31)) .none kV21 dc21 pm21 an21 cd21 ct21 | 22 => PySem.W.fnOf "_law_read_number" "_law_read_number" (defArgs (top 32)) (defBody (top 32)) (defScope (top 32)) .none kV22 dc22 pm22 an22 cd22 ct22 | 23 => PySem.W.fnOf "_law_wrong" "_law_wrong" (defArgs (top 33)) (defBody (top 33)) (defScope (top 33)) .none kV23 dc23 pm23 an23 cd23 ct23 | 24 => PySem.W.fnOf "read_table" "read_table" (defArgs (top 18)) (defBody (top 18)) (defScope (top 18)) .none kV24 dc24 pm24 an24 cd24 ct24 | 25 => PySem.W.fnOf "law" "law" (defArgs (top 35)) (defBody (top 35)) (defScope (top 35)) .none kV25 dc25 pm25 an25 cd25 ct25 | _ => default
  let g : G0 := ⟨K, fun | 0 => C0 | _ => 0⟩
  have D : Dfs K mg F FD := ⟨.of X G a0 l0 c0 k0, .of X G a1 l1 c1 k1, .of X G a2 l2 c2 k2, .of X G a3 l3 c3 k3, .of X G a4 l4 c4 k4, .of X G a5 l5 c5 k5, .of X G a6 l6 c6 k6, .of X G a7 l7 c7 k7, .of X G a8 l8 c8 k8, .of X G a9 l9 c9 k9, .of X G a10 l10 c10 k10, .of X G a11 l11 c11 k11, .of X G a12 l12 c12 k12, .of X G a13 l13 c13 k13, .of X G a14 l14 c14 k14, .of X G a15 l15 c15 k15, .of X G a16 l16 c16 k16, .of X G a17 l17 c17 k17, .of X G a18 l18 c18 k18, .of X G a19 l19 c19 k19, .of X G a20 l20 c20 k20, .of X G a21 l21 c21 k21, .of X G a22 l22 c22 k22, .of X G a23 l23 c23 k23, .of X G a24 l24 c24 k24, .of X G a25 l25 c25 k25⟩
  refine ⟨g, FD 25, f_law, fun s v => D.d25.bindsA (ps := ["script"]) (fun _ _ _ _ _ _ us hl => match us, hl with | [_], _ => rfl) s [v] rfl, pl, fun base XB GB => ?_⟩
  have fr : ∀ x ∈ (["abs", "all", "any", "bool", "enumerate", "int", "isinstance", "len", "list", "max", "min", "ord", "range", "repr", "sorted", "str", "sum", "tuple", "zip"] : List Str), mg x = none := by
    intro x hx
    rcases List.mem_cons.mp hx with e | hx
    · rw [e]; exact PySem.W.mg_none_of X G z0
    rcases List.mem_cons.mp hx with e | hx
    · rw [e]; exact PySem.W.mg_none_of X G z1
    rcases List.mem_cons.mp hx with e | hx
    · rw [e]; exact PySem.W.mg_none_of X G z2
    rcases List.mem_cons.mp hx with e | hx
    · rw [e]; exact PySem.W.mg_none_of X G z3
    rcases List.mem_cons.mp hx with e | hx
    · rw [e]; exact PySem.W.mg_none_of X G z4
    rcases List.mem_cons.mp hx with e | hx
    · rw [e]; exact PySem.W.mg_none_of X G z5
    rcases List.mem_cons.mp hx with e | hx
    · rw [e]; exact PySem.W.mg_none_of X G z6
    rcases List.mem_cons.mp hx with e | hx
    · rw [e]; exact PySem.W.mg_none_of X G z7
    rcases List.mem_cons.mp hx with e | hx
    · rw [e]; exact PySem.W.mg_none_of X G z8
    rcases List.mem_cons.mp hx with e | hx
    · rw [e]; exact PySem.W.mg_none_of X G z9
    rcases List.mem_cons.mp hx with e | hx
    · rw [e]; exact PySem.W.mg_none_of X G z10
    rcases List.mem_cons.mp hx with e | hx
    · rw [e]; exact PySem.W.mg_none_of X G z11
    rcases List.mem_cons.mp hx with e | hx
    · rw [e]; exact PySem.W.mg_none_of X G z12
    rcases List.mem_cons.mp hx with e | hx
    · rw [e]; exact PySem.W.mg_none_of X G z13
    rcases List.mem_cons.mp hx with e | hx
    · rw [e]; exact PySem.W.mg_none_of X G z14
    rcases List.mem_cons.mp hx with e | hx
    · rw [e]; exact PySem.W.mg_none_of X G z15
    rcases List.mem_cons.mp hx with e | hx
    · rw [e]; exact PySem.W.mg_none_of X G z16
    rcases List.mem_cons.mp hx with e | hx
    · rw [e]; exact PySem.W.mg_none_of X G z17
    rcases List.mem_cons.mp hx with e | hx
    · rw [e]; exact PySem.W.mg_none_of X G z18
    exact (nomatch hx)
  have cn : ∀ i x c, con i = some (x, c) → ∃ u v, mg x = some u ∧ RelV v u ∧ ∀ Z H, RD g.K Z H c v := by
    intro i x c h
    match i, h with
    | 0, h => cases h; exact ⟨_, .int _, PySem.W.mg_of X G cn0, ⟨_, rfl⟩, fun _ _ => .int _⟩
    | 1, h => cases h; exact ⟨_, .int _, PySem.W.mg_of X G cn1, ⟨_, rfl⟩, fun _ _ => .int _⟩
    | 2, h => cases h; exact ⟨_, .str _, PySem.W.mg_of X G cn2, ⟨_, rfl⟩, fun _ _ => .str _⟩
    | 3, h => cases h; exact ⟨_, .int _, PySem.W.mg_of X G cn3, ⟨_, rfl⟩, fun _ _ => .int _⟩
    | n + 4, h => cases h
  have ec0 : ErrC K Dd C0 := ⟨⟨⟨_, _, _, _, _, _, _, _, _, _, _, _, _, _, _, xl0, xr0⟩, xsa0, xex0, xty0, xk0⟩, xm0, xs0, xv0, xf0⟩
  have iw : InitW PySem.Challenge.pw_fewnonzero_k85_whole_wrong_lines_of_tabl K mg Dd fI "FewError.__init__" (defArgs fewInit) eBd (.ref T) xkV xdc xpm xct xan cda cc := ⟨⟨_, _, _, il⟩, ic, ⟨_, _, _, _, _, _, ifl, ifv, ifn⟩, ⟨_, _, _, icell⟩, ⟨_, icls⟩, iany, PySem.W.mg_none_of X G isup, by decide +kernel, ⟨_, rfl, rfl⟩⟩
  have bi : L2.Binds K (PySem.W.ksFn "__init__" "FewError.__init__" (defArgs fewInit) eBd eSc (.ref T) xkV xdc xpm xan (.ref cda) xct cc) ["self", "value"] [] := fun s us KI hl => match us, hl with | [_, _], _ => PySem.W.binds_K KI rfl iT rfl rfl rfl
  have ex : ∀ C x, xn C = some x → ErrI PySem.Challenge.pw_fewnonzero_k85_whole_wrong_lines_of_tabl w K mg base x (g.CA C) := by
    intro C x h
    match C, h with
    | 0, h => cases h; exact ⟨⟨Dd, fI, _, _, ec0, xi0, xti0, bi, init_ok iw⟩, PySem.W.mg_of X G xa0⟩
    | n + 1, h => cases h
  have em : ∀ C x C' x', xn C = some x → xn C' = some x' → PySem.W.exmOne K (.ref (g.CA C)) (.ref (g.CA C')) = some (xsub C C') := by
    intro C x C' x' h h'
    match C, C', h, h' with
    | 0, 0, h, h' => exact e0_0
    | 0, n + 1, h, h' => cases h'
    | n + 1, _, h, h' => cases h
  exact g_25 (F := F) (FD := FD) D ⟨rfl, fr, cn, ex, em⟩
set_option maxHeartbeats 0 in
open PySem.W in
theorem holds (pl : Plain) : PySem.Challenge.rw_fewnonzero_k85_whole_wrong_lines_of_tabl.Holds := by
  refine hd ?_
  k_fill
  refine walkG (l := PySem.Challenge.rw_fewnonzero_k85_whole_wrong_lines_of_tabl) (n := 63) (k := 8) (x := "script") rfl (by decide) rfl ⟨rfl, by decide, by decide⟩ rfl (fun w h Y => PySem.W.kIn_of Y) ?hl ?F
  case F =>
    intro w mg fa h KX G hmg
    refine' all_ok pl KX G hmg ?a0 ?l0 ?c0 ?k0 ?a1 ?l1 ?c1 ?k1 ?a2 ?l2 ?c2 ?k2 ?a3 ?l3 ?c3 ?k3 ?a4 ?l4 ?c4 ?k4 ?a5 ?l5 ?c5 ?k5 ?a6 ?l6 ?c6 ?k6 ?a7 ?l7 ?c7 ?k7 ?a8 ?l8 ?c8 ?k8 ?a9 ?l9 ?c9 ?k9 ?a10 ?l10 ?c10 ?k10 ?a11 ?l11 ?c11 ?k11 ?a12 ?l12 ?c12 ?k12 ?a13 ?l13 ?c13 ?k13 ?a14 ?l14 ?c14 ?k14 ?a15 ?l15 ?c15 ?k15 ?a16 ?l16 ?c16 ?k16 ?a17 ?l17 ?c17 ?k17 ?a18 ?l18 ?c18 ?k18 ?a19 ?l19 ?c19 ?k19 ?a20 ?l20 ?c20 ?k20 ?a21 ?l21 ?c21 ?k21 ?a22 ?l22 ?c22 ?k22 ?a23 ?l23 ?c23 ?k23 ?a24 ?l24 ?c24 ?k24 ?a25 ?l25 ?c25 ?k25 ?z0 ?z1 ?z2 ?z3 ?z4 ?z5 ?z6 ?z7 ?z8 ?z9 ?z10 ?z11 ?z12 ?z13 ?z14 ?z15 ?z16 ?z17 ?z18 ?cn0 ?cn1 ?cn2 ?cn3 ?il ?ic ?ifl ?ifv ?ifn ?icell ?icls ?iany ?isup ?iT ?xa0 ?xl0 ?xr0 ?xsa0 ?xex0 ?xty0 ?xk0 ?xm0 ?xs0 ?xv0 ?xf0 ?xi0 ?xti0 ?e0_0
    case xa0 => k_is
    case xl0 => k_is
    case xi0 => k_is
    case a0 => k_is
    case l0 => k_is
    case c0 => k_is
    case k0 => k_is
    case a1 => k_is
    case l1 => k_is
    case c1 => k_is
    case k1 => k_is
    case a2 => k_is
    case l2 => k_is
    case c2 => k_is
    case k2 => k_is
    case a3 => k_is
    case l3 => k_is
    case c3 => k_is
    case k3 => k_is
    case a4 => k_is
    case l4 => k_is
    case c4 => k_is
    case k4 => k_is
    case a5 => k_is
    case l5 => k_is
    case c5 => k_is
    case k5 => k_is
    case a6 => k_is
    case l6 => k_is
    case c6 => k_is
    case k6 => k_is
    case a7 => k_is
    case l7 => k_is
    case c7 => k_is
    case k7 => k_is
    case a8 => k_is
    case l8 => k_is
    case c8 => k_is
    case k8 => k_is
    case a9 => k_is
    case l9 => k_is
    case c9 => k_is
    case k9 => k_is
    case a10 => k_is
    case l10 => k_is
    case c10 => k_is
    case k10 => k_is
    case a11 => k_is
    case l11 => k_is
    case c11 => k_is
    case k11 => k_is
    case a12 => k_is
    case l12 => k_is
    case c12 => k_is
    case k12 => k_is
    case a13 => k_is
    case l13 => k_is
    case c13 => k_is
    case k13 => k_is
    case a14 => k_is
    case l14 => k_is
    case c14 => k_is
    case k14 => k_is
    case a15 => k_is
    case l15 => k_is
    case c15 => k_is
    case k15 => k_is
    case a16 => k_is
    case l16 => k_is
    case c16 => k_is
    case k16 => k_is
    case a17 => k_is
    case l17 => k_is
    case c17 => k_is
    case k17 => k_is
    case a18 => k_is
    case l18 => k_is
    case c18 => k_is
    case k18 => k_is
    case a19 => k_is
    case l19 => k_is
    case c19 => k_is
    case k19 => k_is
    case a20 => k_is
    case l20 => k_is
    case c20 => k_is
    case k20 => k_is
    case a21 => k_is
    case l21 => k_is
    case c21 => k_is
    case k21 => k_is
    case a22 => k_is
    case l22 => k_is
    case c22 => k_is
    case k22 => k_is
    case a23 => k_is
    case l23 => k_is
    case c23 => k_is
    case k23 => k_is
    case a24 => k_is
    case l24 => k_is
    case c24 => k_is
    case k24 => k_is
    case a25 => k_is
    case l25 => k_is
    case c25 => k_is
    case k25 => k_is
    case z0 => k_is
    case z1 => k_is
    case z2 => k_is
    case z3 => k_is
    case z4 => k_is
    case z5 => k_is
    case z6 => k_is
    case z7 => k_is
    case z8 => k_is
    case z9 => k_is
    case z10 => k_is
    case z11 => k_is
    case z12 => k_is
    case z13 => k_is
    case z14 => k_is
    case z15 => k_is
    case z16 => k_is
    case z17 => k_is
    case z18 => k_is
    case cn0 => k_is
    case cn1 => k_is
    case cn2 => k_is
    case cn3 => k_is
    case il => first | k_is | rfl | kernel_rfl
    case ic => k_is
    case ifl => k_is
    case ifv => first | rfl | decide +kernel | kernel_rfl
    case ifn => first | rfl | decide +kernel | kernel_rfl
    case icell => k_is
    case icls => k_is
    case iany => k_is
    case isup => k_is
    case iT => k_is
    case xr0 => first | rfl | decide +kernel | kernel_rfl
    case xsa0 => k_is
    case xex0 => k_is
    case xty0 => k_is
    case xk0 => k_is
    case xm0 => first | k_is | rfl | kernel_rfl
    case xs0 => first | k_is | rfl | kernel_rfl
    case xv0 => k_is
    case xf0 => k_is
    case xti0 => k_is
    case e0_0 => first | k_is | rfl | kernel_rfl
  case hl => exact fun p => noList (by first | rfl | kernel_rfl)
end K85
set_option Elab.async false
set_option maxRecDepth 100000
set_option maxHeartbeats 4000000
namespace K85
open PySem PySem.Spec PyProof.Rows L2 Ev
abbrev dgS : Str := "0123456789"
def dgs (z : Str) : Bool := (decide (1 ≤ z.length) && decide (z.length ≤ 9)) && z.cps.toList.all (fun c => decide (c ∈ dgS.cps.toList)) && ((!((⟨#[z.cps.getD 0 0]⟩ : Str) == "0")) || z.length == 1)
theorem at0 (z : Str) (h : 1 ≤ z.length) : atI z.cps.toList (0 : Int) = some (z.cps.getD 0 0) := by
  have hl : 0 < z.cps.size := h
  refine atI_nat (i := 0) ?_
  rw [Array.getElem?_toList]
  simp [Array.getD, hl]
theorem e_is_digits (z : Str) (hz : z.length ≤ 16777216) : ∃ ρ, f_is_digits [some (.d (.str z))] = .ok (.d (.bool (dgs z))) ρ := by
  rw [show f_is_digits [some (.d (.str z))] = finR 1 [] (s_is_digits [some (.d (.str z)), none]) from bodyR_eq ..]
  unfold s_is_digits
  have hz' : (z.cps.toList.map fun c => PyData.str ⟨#[c]⟩).length ≤ 16777216 := by rw [List.length_map, Array.length_toList]; exact hz
  have cg : compGo ([1] ++ []) (nmG 1) yesT (fzc (op2 (cmpIn false) (oV 1) (ooc (eC (PyData.str dgS))))) (z.cps.toList.map fun c => PyData.str ⟨#[c]⟩) (hide ([1] ++ []) [some (.d (.str z)), none]) =
      some ((z.cps.toList.map fun c => PyData.bool (decide (c ∈ dgS.cps.toList))), [some (.d (.str z)), none]) := by
    rw [show hide ([1] ++ []) [some (W.d (.str z)), none] = [some (W.d (.str z)), none] from rfl]
    rw [compGo_map _ (fun x => match x with | .str w => .bool (decide (w.cps.getD 0 0 ∈ dgS.cps.toList)) | _ => .none)]
    · rw [List.map_map]
      rfl
    · intro x hx
      obtain ⟨c, _, rfl⟩ := List.mem_map.mp hx
      exact ⟨_, _, _, rfl, rfl, rfl, rfl⟩
  have an := anyR_str (show lk [some (W.d (.str z)), none] (.s 0) = some (.str z) from rfl)
  cases h1 : decide (1 ≤ z.length) with
  | false =>
    have e1 : decide ((1 : Int) ≤ (z.length : Int)) = false := by simp at h1 ⊢; omega
    have ed : dgs z = false := by unfold dgs; rw [h1]; rfl
    simp only [gt_0, pt_0, gt_1, gt_2, gt_3, gt_4, gt_5, gt_6, gt_7, gt_8, gt_9, pt_1, pt_2, pt_3, pt_4, pt_5, pt_6, pt_7, pt_8, pt_9, co_d, co_fl, frz_d, frz_fl, sqS_eq, sq_nx, sq_rt, sq_bk, sq_ct, sq_ex, skp_eq, rtS_eq, asS_eq, ifS_eq, exS_eq, raS_eq, fin_rt, fin_nx, fin_ex, eC_eq, oV_eq, oVr_some, eV_eq, eVr_some, eM_eq, eMr_some, op1_eq, op2_eq, opn_eq, nilA_eq, consA_eq, tst_eq, tstB_ok, ifE_eq, ifR_t, ifR_f, andT_eq, orT_eq, andR_t, andR_f, orR_f, orR_t, notT_eq, dsO_nil, dsO_cons, tupE_eq, lstE_eq, tupR_some, lstR_some, callE_eq, callR_ok, callR_ex, ar_v, ar_s, refs_nil, refs_v, refs_s, bk_nil, bk_v, bk_s, bk_e, noP_eq, soP_eq, soB_int, smE_eq, smR_str, slE_eq, binA_i, binS_i, cmpE_i, cmpE_s, cmpE_b, cmpN_i, cmpN_s, cmpN_b, cmpI_i, absD_i, maxD_i, intD_i, intD_b, negD_i, lenD_l, lenD_t, ixD_t0, ixD_t1, fzc_eq, upc_eq, ooc_eq, hide_nil, hide_cons, back_nil, back_cons, bk_v1, bk_v2, nmG_eq, yesT_eq, compE_eq, compK_ok, anyS_eq, anyR_some, srO_v, srO_vs, srO_s, srR_fl, srR_d, srR_str, cmpIn_s, cmpNin_s, cm2_eq, cmR_t, cmR_f, andE_eq, orE_eq, notE_eq, andV_t, andV_f, orV_f, orV_t, notV_b, parS_eq, parR_2, callO_v, callO_vv, callO_vvv, callO_s, callO_sv, callO_svv, slD_l, allD_1, allD_2, isN_eq, forS_eq, forR_nil, enumS_eq, enR_some, isiD_str, lkN_s, lkN_v0, lkN_vi, lkR_0, lkR_i, lkR_fl, lkR_l, lkR_ex, beq_tt, beq_tf, beq_ft, beq_ff, siS_eq, siQ_fl, siR_0, siR_2, ixD_l0, ixD_l1, ixD_l2, bitsD_i, rngS1_eq, bd_ok, bd_ex, bs_ok, bs_ex, fz_d, fz_fl, fz_ex, up_ok, up_ex, oo_ok, oo_ex, lk_v, lk_s, lks_nil, lks_cons, ret_some, ret_none, Option.bind_some, Option.map_some, List.length_cons, List.length_nil, if_true, Bool.false_eq_true, if_false, Bool.not_true, Bool.not_false, List.map_cons, List.map_nil, List.cons_append, List.nil_append, List.append_nil, Nat.reduceAdd, Nat.reduceLT, Nat.zero_add, Nat.reduceLeDiff, eq_self, true_and, and_true, lenD_s hz, e1, ed]
    exact ⟨_, rfl⟩
  | true =>
    have e1 : decide ((1 : Int) ≤ (z.length : Int)) = true := by simp at h1 ⊢; omega
    cases h2 : decide (z.length ≤ 9) with
    | false =>
      have e2 : decide ((z.length : Int) ≤ 9) = false := by simp at h2 ⊢; omega
      have ed : dgs z = false := by unfold dgs; rw [h1, h2]; rfl
      simp only [gt_0, pt_0, gt_1, gt_2, gt_3, gt_4, gt_5, gt_6, gt_7, gt_8, gt_9, pt_1, pt_2, pt_3, pt_4, pt_5, pt_6, pt_7, pt_8, pt_9, co_d, co_fl, frz_d, frz_fl, sqS_eq, sq_nx, sq_rt, sq_bk, sq_ct, sq_ex, skp_eq, rtS_eq, asS_eq, ifS_eq, exS_eq, raS_eq, fin_rt, fin_nx, fin_ex, eC_eq, oV_eq, oVr_some, eV_eq, eVr_some, eM_eq, eMr_some, op1_eq, op2_eq, opn_eq, nilA_eq, consA_eq, tst_eq, tstB_ok, ifE_eq, ifR_t, ifR_f, andT_eq, orT_eq, andR_t, andR_f, orR_f, orR_t, notT_eq, dsO_nil, dsO_cons, tupE_eq, lstE_eq, tupR_some, lstR_some, callE_eq, callR_ok, callR_ex, ar_v, ar_s, refs_nil, refs_v, refs_s, bk_nil, bk_v, bk_s, bk_e, noP_eq, soP_eq, soB_int, smE_eq, smR_str, slE_eq, binA_i, binS_i, cmpE_i, cmpE_s, cmpE_b, cmpN_i, cmpN_s, cmpN_b, cmpI_i, absD_i, maxD_i, intD_i, intD_b, negD_i, lenD_l, lenD_t, ixD_t0, ixD_t1, fzc_eq, upc_eq, ooc_eq, hide_nil, hide_cons, back_nil, back_cons, bk_v1, bk_v2, nmG_eq, yesT_eq, compE_eq, compK_ok, anyS_eq, anyR_some, srO_v, srO_vs, srO_s, srR_fl, srR_d, srR_str, cmpIn_s, cmpNin_s, cm2_eq, cmR_t, cmR_f, andE_eq, orE_eq, notE_eq, andV_t, andV_f, orV_f, orV_t, notV_b, parS_eq, parR_2, callO_v, callO_vv, callO_vvv, callO_s, callO_sv, callO_svv, slD_l, allD_1, allD_2, isN_eq, forS_eq, forR_nil, enumS_eq, enR_some, isiD_str, lkN_s, lkN_v0, lkN_vi, lkR_0, lkR_i, lkR_fl, lkR_l, lkR_ex, beq_tt, beq_tf, beq_ft, beq_ff, siS_eq, siQ_fl, siR_0, siR_2, ixD_l0, ixD_l1, ixD_l2, bitsD_i, rngS1_eq, bd_ok, bd_ex, bs_ok, bs_ex, fz_d, fz_fl, fz_ex, up_ok, up_ex, oo_ok, oo_ex, lk_v, lk_s, lks_nil, lks_cons, ret_some, ret_none, Option.bind_some, Option.map_some, List.length_cons, List.length_nil, if_true, Bool.false_eq_true, if_false, Bool.not_true, Bool.not_false, List.map_cons, List.map_nil, List.cons_append, List.nil_append, List.append_nil, Nat.reduceAdd, Nat.reduceLT, Nat.zero_add, Nat.reduceLeDiff, eq_self, true_and, and_true, lenD_s hz, e1, e2, ed]
      exact ⟨_, rfl⟩
    | true =>
      have e2 : decide ((z.length : Int) ≤ 9) = true := by simp at h2 ⊢; omega
      cases h3 : z.cps.toList.all (fun c => decide (c ∈ dgS.cps.toList)) with
      | false =>
        have ed : dgs z = false := by unfold dgs; rw [h1, h2, h3]; rfl
        simp only [gt_0, pt_0, gt_1, gt_2, gt_3, gt_4, gt_5, gt_6, gt_7, gt_8, gt_9, pt_1, pt_2, pt_3, pt_4, pt_5, pt_6, pt_7, pt_8, pt_9, co_d, co_fl, frz_d, frz_fl, sqS_eq, sq_nx, sq_rt, sq_bk, sq_ct, sq_ex, skp_eq, rtS_eq, asS_eq, ifS_eq, exS_eq, raS_eq, fin_rt, fin_nx, fin_ex, eC_eq, oV_eq, oVr_some, eV_eq, eVr_some, eM_eq, eMr_some, op1_eq, op2_eq, opn_eq, nilA_eq, consA_eq, tst_eq, tstB_ok, ifE_eq, ifR_t, ifR_f, andT_eq, orT_eq, andR_t, andR_f, orR_f, orR_t, notT_eq, dsO_nil, dsO_cons, tupE_eq, lstE_eq, tupR_some, lstR_some, callE_eq, callR_ok, callR_ex, ar_v, ar_s, refs_nil, refs_v, refs_s, bk_nil, bk_v, bk_s, bk_e, noP_eq, soP_eq, soB_int, smE_eq, smR_str, slE_eq, binA_i, binS_i, cmpE_i, cmpE_s, cmpE_b, cmpN_i, cmpN_s, cmpN_b, cmpI_i, absD_i, maxD_i, intD_i, intD_b, negD_i, lenD_l, lenD_t, ixD_t0, ixD_t1, fzc_eq, upc_eq, ooc_eq, hide_nil, hide_cons, back_nil, back_cons, bk_v1, bk_v2, nmG_eq, yesT_eq, compE_eq, compK_ok, anyS_eq, anyR_some, srO_v, srO_vs, srO_s, srR_fl, srR_d, srR_str, cmpIn_s, cmpNin_s, cm2_eq, cmR_t, cmR_f, andE_eq, orE_eq, notE_eq, andV_t, andV_f, orV_f, orV_t, notV_b, parS_eq, parR_2, callO_v, callO_vv, callO_vvv, callO_s, callO_sv, callO_svv, slD_l, allD_1, allD_2, isN_eq, forS_eq, forR_nil, enumS_eq, enR_some, isiD_str, lkN_s, lkN_v0, lkN_vi, lkR_0, lkR_i, lkR_fl, lkR_l, lkR_ex, beq_tt, beq_tf, beq_ft, beq_ff, siS_eq, siQ_fl, siR_0, siR_2, ixD_l0, ixD_l1, ixD_l2, bitsD_i, rngS1_eq, bd_ok, bd_ex, bs_ok, bs_ex, fz_d, fz_fl, fz_ex, up_ok, up_ex, oo_ok, oo_ex, lk_v, lk_s, lks_nil, lks_cons, ret_some, ret_none, Option.bind_some, Option.map_some, List.length_cons, List.length_nil, if_true, Bool.false_eq_true, if_false, Bool.not_true, Bool.not_false, List.map_cons, List.map_nil, List.cons_append, List.nil_append, List.append_nil, Nat.reduceAdd, Nat.reduceLT, Nat.zero_add, Nat.reduceLeDiff, eq_self, true_and, and_true, lenD_s hz, e1, e2, an]
        rw [compR_ok hz' cg]
        simp only [gt_0, pt_0, gt_1, gt_2, gt_3, gt_4, gt_5, gt_6, gt_7, gt_8, gt_9, pt_1, pt_2, pt_3, pt_4, pt_5, pt_6, pt_7, pt_8, pt_9, co_d, co_fl, frz_d, frz_fl, sqS_eq, sq_nx, sq_rt, sq_bk, sq_ct, sq_ex, skp_eq, rtS_eq, asS_eq, ifS_eq, exS_eq, raS_eq, fin_rt, fin_nx, fin_ex, eC_eq, oV_eq, oVr_some, eV_eq, eVr_some, eM_eq, eMr_some, op1_eq, op2_eq, opn_eq, nilA_eq, consA_eq, tst_eq, tstB_ok, ifE_eq, ifR_t, ifR_f, andT_eq, orT_eq, andR_t, andR_f, orR_f, orR_t, notT_eq, dsO_nil, dsO_cons, tupE_eq, lstE_eq, tupR_some, lstR_some, callE_eq, callR_ok, callR_ex, ar_v, ar_s, refs_nil, refs_v, refs_s, bk_nil, bk_v, bk_s, bk_e, noP_eq, soP_eq, soB_int, smE_eq, smR_str, slE_eq, binA_i, binS_i, cmpE_i, cmpE_s, cmpE_b, cmpN_i, cmpN_s, cmpN_b, cmpI_i, absD_i, maxD_i, intD_i, intD_b, negD_i, lenD_l, lenD_t, ixD_t0, ixD_t1, fzc_eq, upc_eq, ooc_eq, hide_nil, hide_cons, back_nil, back_cons, bk_v1, bk_v2, nmG_eq, yesT_eq, compE_eq, compK_ok, anyS_eq, anyR_some, srO_v, srO_vs, srO_s, srR_fl, srR_d, srR_str, cmpIn_s, cmpNin_s, cm2_eq, cmR_t, cmR_f, andE_eq, orE_eq, notE_eq, andV_t, andV_f, orV_f, orV_t, notV_b, parS_eq, parR_2, callO_v, callO_vv, callO_vvv, callO_s, callO_sv, callO_svv, slD_l, allD_1, allD_2, isN_eq, forS_eq, forR_nil, enumS_eq, enR_some, isiD_str, lkN_s, lkN_v0, lkN_vi, lkR_0, lkR_i, lkR_fl, lkR_l, lkR_ex, beq_tt, beq_tf, beq_ft, beq_ff, siS_eq, siQ_fl, siR_0, siR_2, ixD_l0, ixD_l1, ixD_l2, bitsD_i, rngS1_eq, bd_ok, bd_ex, bs_ok, bs_ex, fz_d, fz_fl, fz_ex, up_ok, up_ex, oo_ok, oo_ex, lk_v, lk_s, lks_nil, lks_cons, ret_some, ret_none, Option.bind_some, Option.map_some, List.length_cons, List.length_nil, if_true, Bool.false_eq_true, if_false, Bool.not_true, Bool.not_false, List.map_cons, List.map_nil, List.cons_append, List.nil_append, List.append_nil, Nat.reduceAdd, Nat.reduceLT, Nat.zero_add, Nat.reduceLeDiff, eq_self, true_and, and_true, allD_map, h3, ed]
        exact ⟨_, rfl⟩
      | true =>
        have h0 := at0 z (of_decide_eq_true h1)
        have el : ((z.length : Int) == 1) = (z.length == 1) := by
          rw [Bool.eq_iff_iff]
          simp
          omega
        have ed : dgs z = ((!((⟨#[z.cps.getD 0 0]⟩ : Str) == "0")) || z.length == 1) := by unfold dgs; rw [h1, h2, h3]; rfl
        simp only [gt_0, pt_0, gt_1, gt_2, gt_3, gt_4, gt_5, gt_6, gt_7, gt_8, gt_9, pt_1, pt_2, pt_3, pt_4, pt_5, pt_6, pt_7, pt_8, pt_9, co_d, co_fl, frz_d, frz_fl, sqS_eq, sq_nx, sq_rt, sq_bk, sq_ct, sq_ex, skp_eq, rtS_eq, asS_eq, ifS_eq, exS_eq, raS_eq, fin_rt, fin_nx, fin_ex, eC_eq, oV_eq, oVr_some, eV_eq, eVr_some, eM_eq, eMr_some, op1_eq, op2_eq, opn_eq, nilA_eq, consA_eq, tst_eq, tstB_ok, ifE_eq, ifR_t, ifR_f, andT_eq, orT_eq, andR_t, andR_f, orR_f, orR_t, notT_eq, dsO_nil, dsO_cons, tupE_eq, lstE_eq, tupR_some, lstR_some, callE_eq, callR_ok, callR_ex, ar_v, ar_s, refs_nil, refs_v, refs_s, bk_nil, bk_v, bk_s, bk_e, noP_eq, soP_eq, soB_int, smE_eq, smR_str, slE_eq, binA_i, binS_i, cmpE_i, cmpE_s, cmpE_b, cmpN_i, cmpN_s, cmpN_b, cmpI_i, absD_i, maxD_i, intD_i, intD_b, negD_i, lenD_l, lenD_t, ixD_t0, ixD_t1, fzc_eq, upc_eq, ooc_eq, hide_nil, hide_cons, back_nil, back_cons, bk_v1, bk_v2, nmG_eq, yesT_eq, compE_eq, compK_ok, anyS_eq, anyR_some, srO_v, srO_vs, srO_s, srR_fl, srR_d, srR_str, cmpIn_s, cmpNin_s, cm2_eq, cmR_t, cmR_f, andE_eq, orE_eq, notE_eq, andV_t, andV_f, orV_f, orV_t, notV_b, parS_eq, parR_2, callO_v, callO_vv, callO_vvv, callO_s, callO_sv, callO_svv, slD_l, allD_1, allD_2, isN_eq, forS_eq, forR_nil, enumS_eq, enR_some, isiD_str, lkN_s, lkN_v0, lkN_vi, lkR_0, lkR_i, lkR_fl, lkR_l, lkR_ex, beq_tt, beq_tf, beq_ft, beq_ff, siS_eq, siQ_fl, siR_0, siR_2, ixD_l0, ixD_l1, ixD_l2, bitsD_i, rngS1_eq, bd_ok, bd_ex, bs_ok, bs_ex, fz_d, fz_fl, fz_ex, up_ok, up_ex, oo_ok, oo_ex, lk_v, lk_s, lks_nil, lks_cons, ret_some, ret_none, Option.bind_some, Option.map_some, List.length_cons, List.length_nil, if_true, Bool.false_eq_true, if_false, Bool.not_true, Bool.not_false, List.map_cons, List.map_nil, List.cons_append, List.nil_append, List.append_nil, Nat.reduceAdd, Nat.reduceLT, Nat.zero_add, Nat.reduceLeDiff, eq_self, true_and, and_true, lenD_s hz, e1, e2, an]
        rw [compR_ok hz' cg]
        simp only [gt_0, pt_0, gt_1, gt_2, gt_3, gt_4, gt_5, gt_6, gt_7, gt_8, gt_9, pt_1, pt_2, pt_3, pt_4, pt_5, pt_6, pt_7, pt_8, pt_9, co_d, co_fl, frz_d, frz_fl, sqS_eq, sq_nx, sq_rt, sq_bk, sq_ct, sq_ex, skp_eq, rtS_eq, asS_eq, ifS_eq, exS_eq, raS_eq, fin_rt, fin_nx, fin_ex, eC_eq, oV_eq, oVr_some, eV_eq, eVr_some, eM_eq, eMr_some, op1_eq, op2_eq, opn_eq, nilA_eq, consA_eq, tst_eq, tstB_ok, ifE_eq, ifR_t, ifR_f, andT_eq, orT_eq, andR_t, andR_f, orR_f, orR_t, notT_eq, dsO_nil, dsO_cons, tupE_eq, lstE_eq, tupR_some, lstR_some, callE_eq, callR_ok, callR_ex, ar_v, ar_s, refs_nil, refs_v, refs_s, bk_nil, bk_v, bk_s, bk_e, noP_eq, soP_eq, soB_int, smE_eq, smR_str, slE_eq, binA_i, binS_i, cmpE_i, cmpE_s, cmpE_b, cmpN_i, cmpN_s, cmpN_b, cmpI_i, absD_i, maxD_i, intD_i, intD_b, negD_i, lenD_l, lenD_t, ixD_t0, ixD_t1, fzc_eq, upc_eq, ooc_eq, hide_nil, hide_cons, back_nil, back_cons, bk_v1, bk_v2, nmG_eq, yesT_eq, compE_eq, compK_ok, anyS_eq, anyR_some, srO_v, srO_vs, srO_s, srR_fl, srR_d, srR_str, cmpIn_s, cmpNin_s, cm2_eq, cmR_t, cmR_f, andE_eq, orE_eq, notE_eq, andV_t, andV_f, orV_f, orV_t, notV_b, parS_eq, parR_2, callO_v, callO_vv, callO_vvv, callO_s, callO_sv, callO_svv, slD_l, allD_1, allD_2, isN_eq, forS_eq, forR_nil, enumS_eq, enR_some, isiD_str, lkN_s, lkN_v0, lkN_vi, lkR_0, lkR_i, lkR_fl, lkR_l, lkR_ex, beq_tt, beq_tf, beq_ft, beq_ff, siS_eq, siQ_fl, siR_0, siR_2, ixD_l0, ixD_l1, ixD_l2, bitsD_i, rngS1_eq, bd_ok, bd_ex, bs_ok, bs_ex, fz_d, fz_fl, fz_ex, up_ok, up_ex, oo_ok, oo_ex, lk_v, lk_s, lks_nil, lks_cons, ret_some, ret_none, Option.bind_some, Option.map_some, List.length_cons, List.length_nil, if_true, Bool.false_eq_true, if_false, Bool.not_true, Bool.not_false, List.map_cons, List.map_nil, List.cons_append, List.nil_append, List.append_nil, Nat.reduceAdd, Nat.reduceLT, Nat.zero_add, Nat.reduceLeDiff, eq_self, true_and, and_true, allD_map, h3, ed, ixD_s hz h0, lenD_s hz, el]
        cases ((⟨#[z.cps.getD 0 0]⟩ : Str) == "0") with
        | true =>
          simp only [gt_0, pt_0, gt_1, gt_2, gt_3, gt_4, gt_5, gt_6, gt_7, gt_8, gt_9, pt_1, pt_2, pt_3, pt_4, pt_5, pt_6, pt_7, pt_8, pt_9, co_d, co_fl, frz_d, frz_fl, sqS_eq, sq_nx, sq_rt, sq_bk, sq_ct, sq_ex, skp_eq, rtS_eq, asS_eq, ifS_eq, exS_eq, raS_eq, fin_rt, fin_nx, fin_ex, eC_eq, oV_eq, oVr_some, eV_eq, eVr_some, eM_eq, eMr_some, op1_eq, op2_eq, opn_eq, nilA_eq, consA_eq, tst_eq, tstB_ok, ifE_eq, ifR_t, ifR_f, andT_eq, orT_eq, andR_t, andR_f, orR_f, orR_t, notT_eq, dsO_nil, dsO_cons, tupE_eq, lstE_eq, tupR_some, lstR_some, callE_eq, callR_ok, callR_ex, ar_v, ar_s, refs_nil, refs_v, refs_s, bk_nil, bk_v, bk_s, bk_e, noP_eq, soP_eq, soB_int, smE_eq, smR_str, slE_eq, binA_i, binS_i, cmpE_i, cmpE_s, cmpE_b, cmpN_i, cmpN_s, cmpN_b, cmpI_i, absD_i, maxD_i, intD_i, intD_b, negD_i, lenD_l, lenD_t, ixD_t0, ixD_t1, fzc_eq, upc_eq, ooc_eq, hide_nil, hide_cons, back_nil, back_cons, bk_v1, bk_v2, nmG_eq, yesT_eq, compE_eq, compK_ok, anyS_eq, anyR_some, srO_v, srO_vs, srO_s, srR_fl, srR_d, srR_str, cmpIn_s, cmpNin_s, cm2_eq, cmR_t, cmR_f, andE_eq, orE_eq, notE_eq, andV_t, andV_f, orV_f, orV_t, notV_b, parS_eq, parR_2, callO_v, callO_vv, callO_vvv, callO_s, callO_sv, callO_svv, slD_l, allD_1, allD_2, isN_eq, forS_eq, forR_nil, enumS_eq, enR_some, isiD_str, lkN_s, lkN_v0, lkN_vi, lkR_0, lkR_i, lkR_fl, lkR_l, lkR_ex, beq_tt, beq_tf, beq_ft, beq_ff, siS_eq, siQ_fl, siR_0, siR_2, ixD_l0, ixD_l1, ixD_l2, bitsD_i, rngS1_eq, bd_ok, bd_ex, bs_ok, bs_ex, fz_d, fz_fl, fz_ex, up_ok, up_ex, oo_ok, oo_ex, lk_v, lk_s, lks_nil, lks_cons, ret_some, ret_none, Option.bind_some, Option.map_some, List.length_cons, List.length_nil, if_true, Bool.false_eq_true, if_false, Bool.not_true, Bool.not_false, List.map_cons, List.map_nil, List.cons_append, List.nil_append, List.append_nil, Nat.reduceAdd, Nat.reduceLT, Nat.zero_add, Nat.reduceLeDiff, eq_self, true_and, and_true, Bool.false_or, lenD_s hz, el]
          exact ⟨_, rfl⟩
        | false =>
          simp only [gt_0, pt_0, gt_1, gt_2, gt_3, gt_4, gt_5, gt_6, gt_7, gt_8, gt_9, pt_1, pt_2, pt_3, pt_4, pt_5, pt_6, pt_7, pt_8, pt_9, co_d, co_fl, frz_d, frz_fl, sqS_eq, sq_nx, sq_rt, sq_bk, sq_ct, sq_ex, skp_eq, rtS_eq, asS_eq, ifS_eq, exS_eq, raS_eq, fin_rt, fin_nx, fin_ex, eC_eq, oV_eq, oVr_some, eV_eq, eVr_some, eM_eq, eMr_some, op1_eq, op2_eq, opn_eq, nilA_eq, consA_eq, tst_eq, tstB_ok, ifE_eq, ifR_t, ifR_f, andT_eq, orT_eq, andR_t, andR_f, orR_f, orR_t, notT_eq, dsO_nil, dsO_cons, tupE_eq, lstE_eq, tupR_some, lstR_some, callE_eq, callR_ok, callR_ex, ar_v, ar_s, refs_nil, refs_v, refs_s, bk_nil, bk_v, bk_s, bk_e, noP_eq, soP_eq, soB_int, smE_eq, smR_str, slE_eq, binA_i, binS_i, cmpE_i, cmpE_s, cmpE_b, cmpN_i, cmpN_s, cmpN_b, cmpI_i, absD_i, maxD_i, intD_i, intD_b, negD_i, lenD_l, lenD_t, ixD_t0, ixD_t1, fzc_eq, upc_eq, ooc_eq, hide_nil, hide_cons, back_nil, back_cons, bk_v1, bk_v2, nmG_eq, yesT_eq, compE_eq, compK_ok, anyS_eq, anyR_some, srO_v, srO_vs, srO_s, srR_fl, srR_d, srR_str, cmpIn_s, cmpNin_s, cm2_eq, cmR_t, cmR_f, andE_eq, orE_eq, notE_eq, andV_t, andV_f, orV_f, orV_t, notV_b, parS_eq, parR_2, callO_v, callO_vv, callO_vvv, callO_s, callO_sv, callO_svv, slD_l, allD_1, allD_2, isN_eq, forS_eq, forR_nil, enumS_eq, enR_some, isiD_str, lkN_s, lkN_v0, lkN_vi, lkR_0, lkR_i, lkR_fl, lkR_l, lkR_ex, beq_tt, beq_tf, beq_ft, beq_ff, siS_eq, siQ_fl, siR_0, siR_2, ixD_l0, ixD_l1, ixD_l2, bitsD_i, rngS1_eq, bd_ok, bd_ex, bs_ok, bs_ex, fz_d, fz_fl, fz_ex, up_ok, up_ex, oo_ok, oo_ex, lk_v, lk_s, lks_nil, lks_cons, ret_some, ret_none, Option.bind_some, Option.map_some, List.length_cons, List.length_nil, if_true, Bool.false_eq_true, if_false, Bool.not_true, Bool.not_false, List.map_cons, List.map_nil, List.cons_append, List.nil_append, List.append_nil, Nat.reduceAdd, Nat.reduceLT, Nat.zero_add, Nat.reduceLeDiff, eq_self, true_and, and_true, Bool.true_or]
          exact ⟨_, rfl⟩
/-! the greatest common divisor -/
abbrev iD (n : Int) : Option W := some (.d (.int n))
theorem cd_loop : ∀ (b a : Nat), whS (tst (op2 cGt (oV 1) (ooc (eC (.int 0))))) (sqS (parS [0, 1] (consA (ooc (eV 1)) (consA (ooc (fzc (op2 binR (oV 0) (oV 1)))) nilA))) skp) [iD a, iD b] = .nx [iD (Nat.gcd a b), iD 0] := by
  intro b
  induction b using Nat.strongRecOn with
  | ind b ih =>
    intro a
    by_cases hb : b = 0
    · subst hb
      rw [Nat.gcd_zero_right]
      exact whS_f (by simp only [gt_0, pt_0, gt_1, gt_2, gt_3, gt_4, gt_5, gt_6, gt_7, gt_8, gt_9, pt_1, pt_2, pt_3, pt_4, pt_5, pt_6, pt_7, pt_8, pt_9, co_d, co_fl, frz_d, frz_fl, sqS_eq, sq_nx, sq_rt, sq_bk, sq_ct, sq_ex, skp_eq, rtS_eq, asS_eq, ifS_eq, exS_eq, raS_eq, fin_rt, fin_nx, fin_ex, eC_eq, oV_eq, oVr_some, eV_eq, eVr_some, eM_eq, eMr_some, op1_eq, op2_eq, opn_eq, nilA_eq, consA_eq, tst_eq, tstB_ok, ifE_eq, ifR_t, ifR_f, andT_eq, orT_eq, andR_t, andR_f, orR_f, orR_t, notT_eq, dsO_nil, dsO_cons, tupE_eq, lstE_eq, tupR_some, lstR_some, callE_eq, callR_ok, callR_ex, ar_v, ar_s, refs_nil, refs_v, refs_s, bk_nil, bk_v, bk_s, bk_e, noP_eq, soP_eq, soB_int, smE_eq, smR_str, slE_eq, binA_i, binS_i, cmpE_i, cmpE_s, cmpE_b, cmpN_i, cmpN_s, cmpN_b, cmpI_i, absD_i, maxD_i, intD_i, intD_b, negD_i, lenD_l, lenD_t, ixD_t0, ixD_t1, fzc_eq, upc_eq, ooc_eq, hide_nil, hide_cons, back_nil, back_cons, bk_v1, bk_v2, nmG_eq, yesT_eq, compE_eq, compK_ok, anyS_eq, anyR_some, srO_v, srO_vs, srO_s, srR_fl, srR_d, srR_str, cmpIn_s, cmpNin_s, cm2_eq, cmR_t, cmR_f, andE_eq, orE_eq, notE_eq, andV_t, andV_f, orV_f, orV_t, notV_b, parS_eq, parR_2, callO_v, callO_vv, callO_vvv, callO_s, callO_sv, callO_svv, slD_l, allD_1, allD_2, isN_eq, forS_eq, forR_nil, enumS_eq, enR_some, isiD_str, lkN_s, lkN_v0, lkN_vi, lkR_0, lkR_i, lkR_fl, lkR_l, lkR_ex, beq_tt, beq_tf, beq_ft, beq_ff, siS_eq, siQ_fl, siR_0, siR_2, ixD_l0, ixD_l1, ixD_l2, bitsD_i, rngS1_eq, bd_ok, bd_ex, bs_ok, bs_ex, fz_d, fz_fl, fz_ex, up_ok, up_ex, oo_ok, oo_ex, lk_v, lk_s, lks_nil, lks_cons, ret_some, ret_none, Option.bind_some, Option.map_some, List.length_cons, List.length_nil, if_true, Bool.false_eq_true, if_false, Bool.not_true, Bool.not_false, List.map_cons, List.map_nil, List.cons_append, List.nil_append, List.append_nil, Nat.reduceAdd, Nat.reduceLT, Nat.zero_add, Nat.reduceLeDiff, eq_self, true_and, and_true]; rfl)
    · have h1 : decide ((0 : Int) < (b : Int)) = true := by simp; omega
      have hb' : (b : Int) ≠ 0 := by omega
      refine whS_t (ρ1 := [iD a, iD b]) (ρ2 := [iD b, iD (a % b : Nat)]) (by simp only [gt_0, pt_0, gt_1, gt_2, gt_3, gt_4, gt_5, gt_6, gt_7, gt_8, gt_9, pt_1, pt_2, pt_3, pt_4, pt_5, pt_6, pt_7, pt_8, pt_9, co_d, co_fl, frz_d, frz_fl, sqS_eq, sq_nx, sq_rt, sq_bk, sq_ct, sq_ex, skp_eq, rtS_eq, asS_eq, ifS_eq, exS_eq, raS_eq, fin_rt, fin_nx, fin_ex, eC_eq, oV_eq, oVr_some, eV_eq, eVr_some, eM_eq, eMr_some, op1_eq, op2_eq, opn_eq, nilA_eq, consA_eq, tst_eq, tstB_ok, ifE_eq, ifR_t, ifR_f, andT_eq, orT_eq, andR_t, andR_f, orR_f, orR_t, notT_eq, dsO_nil, dsO_cons, tupE_eq, lstE_eq, tupR_some, lstR_some, callE_eq, callR_ok, callR_ex, ar_v, ar_s, refs_nil, refs_v, refs_s, bk_nil, bk_v, bk_s, bk_e, noP_eq, soP_eq, soB_int, smE_eq, smR_str, slE_eq, binA_i, binS_i, cmpE_i, cmpE_s, cmpE_b, cmpN_i, cmpN_s, cmpN_b, cmpI_i, absD_i, maxD_i, intD_i, intD_b, negD_i, lenD_l, lenD_t, ixD_t0, ixD_t1, fzc_eq, upc_eq, ooc_eq, hide_nil, hide_cons, back_nil, back_cons, bk_v1, bk_v2, nmG_eq, yesT_eq, compE_eq, compK_ok, anyS_eq, anyR_some, srO_v, srO_vs, srO_s, srR_fl, srR_d, srR_str, cmpIn_s, cmpNin_s, cm2_eq, cmR_t, cmR_f, andE_eq, orE_eq, notE_eq, andV_t, andV_f, orV_f, orV_t, notV_b, parS_eq, parR_2, callO_v, callO_vv, callO_vvv, callO_s, callO_sv, callO_svv, slD_l, allD_1, allD_2, isN_eq, forS_eq, forR_nil, enumS_eq, enR_some, isiD_str, lkN_s, lkN_v0, lkN_vi, lkR_0, lkR_i, lkR_fl, lkR_l, lkR_ex, beq_tt, beq_tf, beq_ft, beq_ff, siS_eq, siQ_fl, siR_0, siR_2, ixD_l0, ixD_l1, ixD_l2, bitsD_i, rngS1_eq, bd_ok, bd_ex, bs_ok, bs_ex, fz_d, fz_fl, fz_ex, up_ok, up_ex, oo_ok, oo_ex, lk_v, lk_s, lks_nil, lks_cons, ret_some, ret_none, Option.bind_some, Option.map_some, List.length_cons, List.length_nil, if_true, Bool.false_eq_true, if_false, Bool.not_true, Bool.not_false, List.map_cons, List.map_nil, List.cons_append, List.nil_append, List.append_nil, Nat.reduceAdd, Nat.reduceLT, Nat.zero_add, Nat.reduceLeDiff, eq_self, true_and, and_true, h1]) ?_ (r := .nx [iD (Nat.gcd a b), iD 0]) ?_ (fun z => nomatch z)
      · simp only [gt_0, pt_0, gt_1, gt_2, gt_3, gt_4, gt_5, gt_6, gt_7, gt_8, gt_9, pt_1, pt_2, pt_3, pt_4, pt_5, pt_6, pt_7, pt_8, pt_9, co_d, co_fl, frz_d, frz_fl, sqS_eq, sq_nx, sq_rt, sq_bk, sq_ct, sq_ex, skp_eq, rtS_eq, asS_eq, ifS_eq, exS_eq, raS_eq, fin_rt, fin_nx, fin_ex, eC_eq, oV_eq, oVr_some, eV_eq, eVr_some, eM_eq, eMr_some, op1_eq, op2_eq, opn_eq, nilA_eq, consA_eq, tst_eq, tstB_ok, ifE_eq, ifR_t, ifR_f, andT_eq, orT_eq, andR_t, andR_f, orR_f, orR_t, notT_eq, dsO_nil, dsO_cons, tupE_eq, lstE_eq, tupR_some, lstR_some, callE_eq, callR_ok, callR_ex, ar_v, ar_s, refs_nil, refs_v, refs_s, bk_nil, bk_v, bk_s, bk_e, noP_eq, soP_eq, soB_int, smE_eq, smR_str, slE_eq, binA_i, binS_i, cmpE_i, cmpE_s, cmpE_b, cmpN_i, cmpN_s, cmpN_b, cmpI_i, absD_i, maxD_i, intD_i, intD_b, negD_i, lenD_l, lenD_t, ixD_t0, ixD_t1, fzc_eq, upc_eq, ooc_eq, hide_nil, hide_cons, back_nil, back_cons, bk_v1, bk_v2, nmG_eq, yesT_eq, compE_eq, compK_ok, anyS_eq, anyR_some, srO_v, srO_vs, srO_s, srR_fl, srR_d, srR_str, cmpIn_s, cmpNin_s, cm2_eq, cmR_t, cmR_f, andE_eq, orE_eq, notE_eq, andV_t, andV_f, orV_f, orV_t, notV_b, parS_eq, parR_2, callO_v, callO_vv, callO_vvv, callO_s, callO_sv, callO_svv, slD_l, allD_1, allD_2, isN_eq, forS_eq, forR_nil, enumS_eq, enR_some, isiD_str, lkN_s, lkN_v0, lkN_vi, lkR_0, lkR_i, lkR_fl, lkR_l, lkR_ex, beq_tt, beq_tf, beq_ft, beq_ff, siS_eq, siQ_fl, siR_0, siR_2, ixD_l0, ixD_l1, ixD_l2, bitsD_i, rngS1_eq, bd_ok, bd_ex, bs_ok, bs_ex, fz_d, fz_fl, fz_ex, up_ok, up_ex, oo_ok, oo_ex, lk_v, lk_s, lks_nil, lks_cons, ret_some, ret_none, Option.bind_some, Option.map_some, List.length_cons, List.length_nil, if_true, Bool.false_eq_true, if_false, Bool.not_true, Bool.not_false, List.map_cons, List.map_nil, List.cons_append, List.nil_append, List.append_nil, Nat.reduceAdd, Nat.reduceLT, Nat.zero_add, Nat.reduceLeDiff, eq_self, true_and, and_true, modR hb']
        rw [Int.fmod_eq_emod_of_nonneg _ (by omega)]
        simp
      · have := ih (a % b) (Nat.mod_lt _ (by omega)) b
        rw [this, Nat.gcd_comm b, ← Nat.gcd_rec, Nat.gcd_comm]
theorem absI (a : Int) : (if a < 0 then -a else a) = (a.natAbs : Int) := by
  split <;> omega
theorem e_common_divisor (a b : Int) : ∃ ρ, f_common_divisor [iD a, iD b] = .ok (.d (.int (Nat.gcd a.natAbs b.natAbs))) ρ := by
  rw [show f_common_divisor [iD a, iD b] = finR 2 [0, 1] (s_common_divisor [iD a, iD b]) from bodyR_eq ..]
  unfold s_common_divisor
  simp only [gt_0, pt_0, gt_1, gt_2, gt_3, gt_4, gt_5, gt_6, gt_7, gt_8, gt_9, pt_1, pt_2, pt_3, pt_4, pt_5, pt_6, pt_7, pt_8, pt_9, co_d, co_fl, frz_d, frz_fl, sqS_eq, sq_nx, sq_rt, sq_bk, sq_ct, sq_ex, skp_eq, rtS_eq, asS_eq, ifS_eq, exS_eq, raS_eq, fin_rt, fin_nx, fin_ex, eC_eq, oV_eq, oVr_some, eV_eq, eVr_some, eM_eq, eMr_some, op1_eq, op2_eq, opn_eq, nilA_eq, consA_eq, tst_eq, tstB_ok, ifE_eq, ifR_t, ifR_f, andT_eq, orT_eq, andR_t, andR_f, orR_f, orR_t, notT_eq, dsO_nil, dsO_cons, tupE_eq, lstE_eq, tupR_some, lstR_some, callE_eq, callR_ok, callR_ex, ar_v, ar_s, refs_nil, refs_v, refs_s, bk_nil, bk_v, bk_s, bk_e, noP_eq, soP_eq, soB_int, smE_eq, smR_str, slE_eq, binA_i, binS_i, cmpE_i, cmpE_s, cmpE_b, cmpN_i, cmpN_s, cmpN_b, cmpI_i, absD_i, maxD_i, intD_i, intD_b, negD_i, lenD_l, lenD_t, ixD_t0, ixD_t1, fzc_eq, upc_eq, ooc_eq, hide_nil, hide_cons, back_nil, back_cons, bk_v1, bk_v2, nmG_eq, yesT_eq, compE_eq, compK_ok, anyS_eq, anyR_some, srO_v, srO_vs, srO_s, srR_fl, srR_d, srR_str, cmpIn_s, cmpNin_s, cm2_eq, cmR_t, cmR_f, andE_eq, orE_eq, notE_eq, andV_t, andV_f, orV_f, orV_t, notV_b, parS_eq, parR_2, callO_v, callO_vv, callO_vvv, callO_s, callO_sv, callO_svv, slD_l, allD_1, allD_2, isN_eq, forS_eq, forR_nil, enumS_eq, enR_some, isiD_str, lkN_s, lkN_v0, lkN_vi, lkR_0, lkR_i, lkR_fl, lkR_l, lkR_ex, beq_tt, beq_tf, beq_ft, beq_ff, siS_eq, siQ_fl, siR_0, siR_2, ixD_l0, ixD_l1, ixD_l2, bitsD_i, rngS1_eq, bd_ok, bd_ex, bs_ok, bs_ex, fz_d, fz_fl, fz_ex, up_ok, up_ex, oo_ok, oo_ex, lk_v, lk_s, lks_nil, lks_cons, ret_some, ret_none, Option.bind_some, Option.map_some, List.length_cons, List.length_nil, if_true, Bool.false_eq_true, if_false, Bool.not_true, Bool.not_false, List.map_cons, List.map_nil, List.cons_append, List.nil_append, List.append_nil, Nat.reduceAdd, Nat.reduceLT, Nat.zero_add, Nat.reduceLeDiff, eq_self, true_and, and_true, absD_i, absI]
  rw [cd_loop]
  simp only [gt_0, pt_0, gt_1, gt_2, gt_3, gt_4, gt_5, gt_6, gt_7, gt_8, gt_9, pt_1, pt_2, pt_3, pt_4, pt_5, pt_6, pt_7, pt_8, pt_9, co_d, co_fl, frz_d, frz_fl, sqS_eq, sq_nx, sq_rt, sq_bk, sq_ct, sq_ex, skp_eq, rtS_eq, asS_eq, ifS_eq, exS_eq, raS_eq, fin_rt, fin_nx, fin_ex, eC_eq, oV_eq, oVr_some, eV_eq, eVr_some, eM_eq, eMr_some, op1_eq, op2_eq, opn_eq, nilA_eq, consA_eq, tst_eq, tstB_ok, ifE_eq, ifR_t, ifR_f, andT_eq, orT_eq, andR_t, andR_f, orR_f, orR_t, notT_eq, dsO_nil, dsO_cons, tupE_eq, lstE_eq, tupR_some, lstR_some, callE_eq, callR_ok, callR_ex, ar_v, ar_s, refs_nil, refs_v, refs_s, bk_nil, bk_v, bk_s, bk_e, noP_eq, soP_eq, soB_int, smE_eq, smR_str, slE_eq, binA_i, binS_i, cmpE_i, cmpE_s, cmpE_b, cmpN_i, cmpN_s, cmpN_b, cmpI_i, absD_i, maxD_i, intD_i, intD_b, negD_i, lenD_l, lenD_t, ixD_t0, ixD_t1, fzc_eq, upc_eq, ooc_eq, hide_nil, hide_cons, back_nil, back_cons, bk_v1, bk_v2, nmG_eq, yesT_eq, compE_eq, compK_ok, anyS_eq, anyR_some, srO_v, srO_vs, srO_s, srR_fl, srR_d, srR_str, cmpIn_s, cmpNin_s, cm2_eq, cmR_t, cmR_f, andE_eq, orE_eq, notE_eq, andV_t, andV_f, orV_f, orV_t, notV_b, parS_eq, parR_2, callO_v, callO_vv, callO_vvv, callO_s, callO_sv, callO_svv, slD_l, allD_1, allD_2, isN_eq, forS_eq, forR_nil, enumS_eq, enR_some, isiD_str, lkN_s, lkN_v0, lkN_vi, lkR_0, lkR_i, lkR_fl, lkR_l, lkR_ex, beq_tt, beq_tf, beq_ft, beq_ff, siS_eq, siQ_fl, siR_0, siR_2, ixD_l0, ixD_l1, ixD_l2, bitsD_i, rngS1_eq, bd_ok, bd_ex, bs_ok, bs_ex, fz_d, fz_fl, fz_ex, up_ok, up_ex, oo_ok, oo_ex, lk_v, lk_s, lks_nil, lks_cons, ret_some, ret_none, Option.bind_some, Option.map_some, List.length_cons, List.length_nil, if_true, Bool.false_eq_true, if_false, Bool.not_true, Bool.not_false, List.map_cons, List.map_nil, List.cons_append, List.nil_append, List.append_nil, Nat.reduceAdd, Nat.reduceLT, Nat.zero_add, Nat.reduceLeDiff, eq_self, true_and, and_true]
  exact ⟨_, rfl⟩
/-- lowest terms -/
def low (a b : Int) : PyData := .tuple [.int (a.fdiv (Nat.gcd a.natAbs b.natAbs : Nat)), .int (b.fdiv (Nat.gcd a.natAbs b.natAbs : Nat))]
theorem gcd_ok {a b : Int} (h : 1 ≤ b) (hb : b < 1073741824) : ((Nat.gcd a.natAbs b.natAbs : Nat) : Int) ≠ 0 ∧ (Nat.gcd a.natAbs b.natAbs) < 1073741824 := by
  have h1 : 0 < Nat.gcd a.natAbs b.natAbs := Nat.gcd_pos_of_pos_right _ (by omega)
  have h2 : Nat.gcd a.natAbs b.natAbs ≤ b.natAbs := Nat.gcd_le_right _ (by omega)
  omega
theorem e_lowest (a b : Int) (h : 1 ≤ b) (hb : b < 1073741824) : ∃ ρ, f_lowest [iD a, iD b] = .ok (.d (low a b)) ρ := by
  rw [show f_lowest [iD a, iD b] = finR 2 [0, 1, 2] (s_lowest [iD a, iD b, none]) from bodyR_eq ..]
  unfold s_lowest
  have h1 : decide (b < 0) = false := by simp; omega
  obtain ⟨g1, g2⟩ := gcd_ok (a := a) h hb
  have g3 : ∀ x : Int, Builtin.divisionGoesByPylong x ((Nat.gcd a.natAbs b.natAbs : Nat) : Int) = false := fun x => PyProof.noPylong_small (by simpa using g2)
  obtain ⟨ρ1, e1⟩ := e_common_divisor a b
  simp only [gt_0, pt_0, gt_1, gt_2, gt_3, gt_4, gt_5, gt_6, gt_7, gt_8, gt_9, pt_1, pt_2, pt_3, pt_4, pt_5, pt_6, pt_7, pt_8, pt_9, co_d, co_fl, frz_d, frz_fl, sqS_eq, sq_nx, sq_rt, sq_bk, sq_ct, sq_ex, skp_eq, rtS_eq, asS_eq, ifS_eq, exS_eq, raS_eq, fin_rt, fin_nx, fin_ex, eC_eq, oV_eq, oVr_some, eV_eq, eVr_some, eM_eq, eMr_some, op1_eq, op2_eq, opn_eq, nilA_eq, consA_eq, tst_eq, tstB_ok, ifE_eq, ifR_t, ifR_f, andT_eq, orT_eq, andR_t, andR_f, orR_f, orR_t, notT_eq, dsO_nil, dsO_cons, tupE_eq, lstE_eq, tupR_some, lstR_some, callE_eq, callR_ok, callR_ex, ar_v, ar_s, refs_nil, refs_v, refs_s, bk_nil, bk_v, bk_s, bk_e, noP_eq, soP_eq, soB_int, smE_eq, smR_str, slE_eq, binA_i, binS_i, cmpE_i, cmpE_s, cmpE_b, cmpN_i, cmpN_s, cmpN_b, cmpI_i, absD_i, maxD_i, intD_i, intD_b, negD_i, lenD_l, lenD_t, ixD_t0, ixD_t1, fzc_eq, upc_eq, ooc_eq, hide_nil, hide_cons, back_nil, back_cons, bk_v1, bk_v2, nmG_eq, yesT_eq, compE_eq, compK_ok, anyS_eq, anyR_some, srO_v, srO_vs, srO_s, srR_fl, srR_d, srR_str, cmpIn_s, cmpNin_s, cm2_eq, cmR_t, cmR_f, andE_eq, orE_eq, notE_eq, andV_t, andV_f, orV_f, orV_t, notV_b, parS_eq, parR_2, callO_v, callO_vv, callO_vvv, callO_s, callO_sv, callO_svv, slD_l, allD_1, allD_2, isN_eq, forS_eq, forR_nil, enumS_eq, enR_some, isiD_str, lkN_s, lkN_v0, lkN_vi, lkR_0, lkR_i, lkR_fl, lkR_l, lkR_ex, beq_tt, beq_tf, beq_ft, beq_ff, siS_eq, siQ_fl, siR_0, siR_2, ixD_l0, ixD_l1, ixD_l2, bitsD_i, rngS1_eq, bd_ok, bd_ex, bs_ok, bs_ex, fz_d, fz_fl, fz_ex, up_ok, up_ex, oo_ok, oo_ex, lk_v, lk_s, lks_nil, lks_cons, ret_some, ret_none, Option.bind_some, Option.map_some, List.length_cons, List.length_nil, if_true, Bool.false_eq_true, if_false, Bool.not_true, Bool.not_false, List.map_cons, List.map_nil, List.cons_append, List.nil_append, List.append_nil, Nat.reduceAdd, Nat.reduceLT, Nat.zero_add, Nat.reduceLeDiff, eq_self, true_and, and_true, h1, e1, divQ g1 (g3 _)]
  exact ⟨_, rfl⟩
theorem low_loop (t u : Option W) : ∀ (b a : Nat), b < 1073741824 → whS (tst (op2 cGt (oV 3) (ooc (eC (.int 0))))) (sqS (parS [2, 3] (consA (ooc (eV 3)) (consA (ooc (fzc (op2 binS (oV 2) (ooc (fzc (op2 binM (ooc (fzc (op2 binQ (oV 2) (oV 3)))) (oV 3))))))) nilA))) skp) [t, u, iD a, iD b] = .nx [t, u, iD (Nat.gcd a b), iD 0] := by
  intro b
  induction b using Nat.strongRecOn with
  | ind b ih =>
    intro a hlt
    by_cases hb : b = 0
    · subst hb
      rw [Nat.gcd_zero_right]
      exact whS_f (by simp only [gt_0, pt_0, gt_1, gt_2, gt_3, gt_4, gt_5, gt_6, gt_7, gt_8, gt_9, pt_1, pt_2, pt_3, pt_4, pt_5, pt_6, pt_7, pt_8, pt_9, co_d, co_fl, frz_d, frz_fl, sqS_eq, sq_nx, sq_rt, sq_bk, sq_ct, sq_ex, skp_eq, rtS_eq, asS_eq, ifS_eq, exS_eq, raS_eq, fin_rt, fin_nx, fin_ex, eC_eq, oV_eq, oVr_some, eV_eq, eVr_some, eM_eq, eMr_some, op1_eq, op2_eq, opn_eq, nilA_eq, consA_eq, tst_eq, tstB_ok, ifE_eq, ifR_t, ifR_f, andT_eq, orT_eq, andR_t, andR_f, orR_f, orR_t, notT_eq, dsO_nil, dsO_cons, tupE_eq, lstE_eq, tupR_some, lstR_some, callE_eq, callR_ok, callR_ex, ar_v, ar_s, refs_nil, refs_v, refs_s, bk_nil, bk_v, bk_s, bk_e, noP_eq, soP_eq, soB_int, smE_eq, smR_str, slE_eq, binA_i, binS_i, cmpE_i, cmpE_s, cmpE_b, cmpN_i, cmpN_s, cmpN_b, cmpI_i, absD_i, maxD_i, intD_i, intD_b, negD_i, lenD_l, lenD_t, ixD_t0, ixD_t1, fzc_eq, upc_eq, ooc_eq, hide_nil, hide_cons, back_nil, back_cons, bk_v1, bk_v2, nmG_eq, yesT_eq, compE_eq, compK_ok, anyS_eq, anyR_some, srO_v, srO_vs, srO_s, srR_fl, srR_d, srR_str, cmpIn_s, cmpNin_s, cm2_eq, cmR_t, cmR_f, andE_eq, orE_eq, notE_eq, andV_t, andV_f, orV_f, orV_t, notV_b, parS_eq, parR_2, callO_v, callO_vv, callO_vvv, callO_s, callO_sv, callO_svv, slD_l, allD_1, allD_2, isN_eq, forS_eq, forR_nil, enumS_eq, enR_some, isiD_str, lkN_s, lkN_v0, lkN_vi, lkR_0, lkR_i, lkR_fl, lkR_l, lkR_ex, beq_tt, beq_tf, beq_ft, beq_ff, siS_eq, siQ_fl, siR_0, siR_2, ixD_l0, ixD_l1, ixD_l2, bitsD_i, rngS1_eq, bd_ok, bd_ex, bs_ok, bs_ex, fz_d, fz_fl, fz_ex, up_ok, up_ex, oo_ok, oo_ex, lk_v, lk_s, lks_nil, lks_cons, ret_some, ret_none, Option.bind_some, Option.map_some, List.length_cons, List.length_nil, if_true, Bool.false_eq_true, if_false, Bool.not_true, Bool.not_false, List.map_cons, List.map_nil, List.cons_append, List.nil_append, List.append_nil, Nat.reduceAdd, Nat.reduceLT, Nat.zero_add, Nat.reduceLeDiff, eq_self, true_and, and_true]; rfl)
    · have h1 : decide ((0 : Int) < (b : Int)) = true := by simp; omega
      have hb' : (b : Int) ≠ 0 := by omega
      have hd : Builtin.divisionGoesByPylong (a : Int) (b : Int) = false := PyProof.noPylong_small (by simpa using hlt)
      have hm : mulB ((a : Int).fdiv (b : Int)) (b : Int) = true := mulB_r (by simp; omega)
      refine whS_t (ρ1 := [t, u, iD a, iD b]) (ρ2 := [t, u, iD b, iD (a % b : Nat)]) (by simp only [gt_0, pt_0, gt_1, gt_2, gt_3, gt_4, gt_5, gt_6, gt_7, gt_8, gt_9, pt_1, pt_2, pt_3, pt_4, pt_5, pt_6, pt_7, pt_8, pt_9, co_d, co_fl, frz_d, frz_fl, sqS_eq, sq_nx, sq_rt, sq_bk, sq_ct, sq_ex, skp_eq, rtS_eq, asS_eq, ifS_eq, exS_eq, raS_eq, fin_rt, fin_nx, fin_ex, eC_eq, oV_eq, oVr_some, eV_eq, eVr_some, eM_eq, eMr_some, op1_eq, op2_eq, opn_eq, nilA_eq, consA_eq, tst_eq, tstB_ok, ifE_eq, ifR_t, ifR_f, andT_eq, orT_eq, andR_t, andR_f, orR_f, orR_t, notT_eq, dsO_nil, dsO_cons, tupE_eq, lstE_eq, tupR_some, lstR_some, callE_eq, callR_ok, callR_ex, ar_v, ar_s, refs_nil, refs_v, refs_s, bk_nil, bk_v, bk_s, bk_e, noP_eq, soP_eq, soB_int, smE_eq, smR_str, slE_eq, binA_i, binS_i, cmpE_i, cmpE_s, cmpE_b, cmpN_i, cmpN_s, cmpN_b, cmpI_i, absD_i, maxD_i, intD_i, intD_b, negD_i, lenD_l, lenD_t, ixD_t0, ixD_t1, fzc_eq, upc_eq, ooc_eq, hide_nil, hide_cons, back_nil, back_cons, bk_v1, bk_v2, nmG_eq, yesT_eq, compE_eq, compK_ok, anyS_eq, anyR_some, srO_v, srO_vs, srO_s, srR_fl, srR_d, srR_str, cmpIn_s, cmpNin_s, cm2_eq, cmR_t, cmR_f, andE_eq, orE_eq, notE_eq, andV_t, andV_f, orV_f, orV_t, notV_b, parS_eq, parR_2, callO_v, callO_vv, callO_vvv, callO_s, callO_sv, callO_svv, slD_l, allD_1, allD_2, isN_eq, forS_eq, forR_nil, enumS_eq, enR_some, isiD_str, lkN_s, lkN_v0, lkN_vi, lkR_0, lkR_i, lkR_fl, lkR_l, lkR_ex, beq_tt, beq_tf, beq_ft, beq_ff, siS_eq, siQ_fl, siR_0, siR_2, ixD_l0, ixD_l1, ixD_l2, bitsD_i, rngS1_eq, bd_ok, bd_ex, bs_ok, bs_ex, fz_d, fz_fl, fz_ex, up_ok, up_ex, oo_ok, oo_ex, lk_v, lk_s, lks_nil, lks_cons, ret_some, ret_none, Option.bind_some, Option.map_some, List.length_cons, List.length_nil, if_true, Bool.false_eq_true, if_false, Bool.not_true, Bool.not_false, List.map_cons, List.map_nil, List.cons_append, List.nil_append, List.append_nil, Nat.reduceAdd, Nat.reduceLT, Nat.zero_add, Nat.reduceLeDiff, eq_self, true_and, and_true, h1]) ?_ (r := .nx [t, u, iD (Nat.gcd a b), iD 0]) ?_ (fun z => nomatch z)
      · simp only [gt_0, pt_0, gt_1, gt_2, gt_3, gt_4, gt_5, gt_6, gt_7, gt_8, gt_9, pt_1, pt_2, pt_3, pt_4, pt_5, pt_6, pt_7, pt_8, pt_9, co_d, co_fl, frz_d, frz_fl, sqS_eq, sq_nx, sq_rt, sq_bk, sq_ct, sq_ex, skp_eq, rtS_eq, asS_eq, ifS_eq, exS_eq, raS_eq, fin_rt, fin_nx, fin_ex, eC_eq, oV_eq, oVr_some, eV_eq, eVr_some, eM_eq, eMr_some, op1_eq, op2_eq, opn_eq, nilA_eq, consA_eq, tst_eq, tstB_ok, ifE_eq, ifR_t, ifR_f, andT_eq, orT_eq, andR_t, andR_f, orR_f, orR_t, notT_eq, dsO_nil, dsO_cons, tupE_eq, lstE_eq, tupR_some, lstR_some, callE_eq, callR_ok, callR_ex, ar_v, ar_s, refs_nil, refs_v, refs_s, bk_nil, bk_v, bk_s, bk_e, noP_eq, soP_eq, soB_int, smE_eq, smR_str, slE_eq, binA_i, binS_i, cmpE_i, cmpE_s, cmpE_b, cmpN_i, cmpN_s, cmpN_b, cmpI_i, absD_i, maxD_i, intD_i, intD_b, negD_i, lenD_l, lenD_t, ixD_t0, ixD_t1, fzc_eq, upc_eq, ooc_eq, hide_nil, hide_cons, back_nil, back_cons, bk_v1, bk_v2, nmG_eq, yesT_eq, compE_eq, compK_ok, anyS_eq, anyR_some, srO_v, srO_vs, srO_s, srR_fl, srR_d, srR_str, cmpIn_s, cmpNin_s, cm2_eq, cmR_t, cmR_f, andE_eq, orE_eq, notE_eq, andV_t, andV_f, orV_f, orV_t, notV_b, parS_eq, parR_2, callO_v, callO_vv, callO_vvv, callO_s, callO_sv, callO_svv, slD_l, allD_1, allD_2, isN_eq, forS_eq, forR_nil, enumS_eq, enR_some, isiD_str, lkN_s, lkN_v0, lkN_vi, lkR_0, lkR_i, lkR_fl, lkR_l, lkR_ex, beq_tt, beq_tf, beq_ft, beq_ff, siS_eq, siQ_fl, siR_0, siR_2, ixD_l0, ixD_l1, ixD_l2, bitsD_i, rngS1_eq, bd_ok, bd_ex, bs_ok, bs_ex, fz_d, fz_fl, fz_ex, up_ok, up_ex, oo_ok, oo_ex, lk_v, lk_s, lks_nil, lks_cons, ret_some, ret_none, Option.bind_some, Option.map_some, List.length_cons, List.length_nil, if_true, Bool.false_eq_true, if_false, Bool.not_true, Bool.not_false, List.map_cons, List.map_nil, List.cons_append, List.nil_append, List.append_nil, Nat.reduceAdd, Nat.reduceLT, Nat.zero_add, Nat.reduceLeDiff, eq_self, true_and, and_true, divQ hb' hd, mulM hm]
        rw [Int.fdiv_eq_ediv_of_nonneg _ (by omega)]
        have : ((a : Int) - (a : Int) / (b : Int) * (b : Int)) = ((a % b : Nat) : Int) := by
          rw [Int.natCast_emod, Int.emod_def, Int.mul_comm]
        rw [this]
      · have := ih (a % b) (Nat.mod_lt _ (by omega)) b (by have := Nat.mod_lt a (show b > 0 by omega); omega)
        rw [this, Nat.gcd_comm b, ← Nat.gcd_rec, Nat.gcd_comm]
theorem e_law_lowest (a b : Int) (h : 1 ≤ b) (hb : b < 1073741824) : ∃ ρ, f_x_law_lowest [iD a, iD b] = .ok (.d (low a b)) ρ := by
  rw [show f_x_law_lowest [iD a, iD b] = finR 2 [2, 3] (s_x_law_lowest [iD a, iD b, none, none]) from bodyR_eq ..]
  unfold s_x_law_lowest
  have h1 : decide (0 < b) = true := by simp; omega
  obtain ⟨g1, g2⟩ := gcd_ok (a := a) h hb
  have g3 : ∀ x : Int, Builtin.divisionGoesByPylong x ((Nat.gcd a.natAbs b.natAbs : Nat) : Int) = false := fun x => PyProof.noPylong_small (by simpa using g2)
  simp only [gt_0, pt_0, gt_1, gt_2, gt_3, gt_4, gt_5, gt_6, gt_7, gt_8, gt_9, pt_1, pt_2, pt_3, pt_4, pt_5, pt_6, pt_7, pt_8, pt_9, co_d, co_fl, frz_d, frz_fl, sqS_eq, sq_nx, sq_rt, sq_bk, sq_ct, sq_ex, skp_eq, rtS_eq, asS_eq, ifS_eq, exS_eq, raS_eq, fin_rt, fin_nx, fin_ex, eC_eq, oV_eq, oVr_some, eV_eq, eVr_some, eM_eq, eMr_some, op1_eq, op2_eq, opn_eq, nilA_eq, consA_eq, tst_eq, tstB_ok, ifE_eq, ifR_t, ifR_f, andT_eq, orT_eq, andR_t, andR_f, orR_f, orR_t, notT_eq, dsO_nil, dsO_cons, tupE_eq, lstE_eq, tupR_some, lstR_some, callE_eq, callR_ok, callR_ex, ar_v, ar_s, refs_nil, refs_v, refs_s, bk_nil, bk_v, bk_s, bk_e, noP_eq, soP_eq, soB_int, smE_eq, smR_str, slE_eq, binA_i, binS_i, cmpE_i, cmpE_s, cmpE_b, cmpN_i, cmpN_s, cmpN_b, cmpI_i, absD_i, maxD_i, intD_i, intD_b, negD_i, lenD_l, lenD_t, ixD_t0, ixD_t1, fzc_eq, upc_eq, ooc_eq, hide_nil, hide_cons, back_nil, back_cons, bk_v1, bk_v2, nmG_eq, yesT_eq, compE_eq, compK_ok, anyS_eq, anyR_some, srO_v, srO_vs, srO_s, srR_fl, srR_d, srR_str, cmpIn_s, cmpNin_s, cm2_eq, cmR_t, cmR_f, andE_eq, orE_eq, notE_eq, andV_t, andV_f, orV_f, orV_t, notV_b, parS_eq, parR_2, callO_v, callO_vv, callO_vvv, callO_s, callO_sv, callO_svv, slD_l, allD_1, allD_2, isN_eq, forS_eq, forR_nil, enumS_eq, enR_some, isiD_str, lkN_s, lkN_v0, lkN_vi, lkR_0, lkR_i, lkR_fl, lkR_l, lkR_ex, beq_tt, beq_tf, beq_ft, beq_ff, siS_eq, siQ_fl, siR_0, siR_2, ixD_l0, ixD_l1, ixD_l2, bitsD_i, rngS1_eq, bd_ok, bd_ex, bs_ok, bs_ex, fz_d, fz_fl, fz_ex, up_ok, up_ex, oo_ok, oo_ex, lk_v, lk_s, lks_nil, lks_cons, ret_some, ret_none, Option.bind_some, Option.map_some, List.length_cons, List.length_nil, if_true, Bool.false_eq_true, if_false, Bool.not_true, Bool.not_false, List.map_cons, List.map_nil, List.cons_append, List.nil_append, List.append_nil, Nat.reduceAdd, Nat.reduceLT, Nat.zero_add, Nat.reduceLeDiff, eq_self, true_and, and_true, absD_i, absI]
  rw [low_loop _ _ _ _ (by omega)]
  simp only [gt_0, pt_0, gt_1, gt_2, gt_3, gt_4, gt_5, gt_6, gt_7, gt_8, gt_9, pt_1, pt_2, pt_3, pt_4, pt_5, pt_6, pt_7, pt_8, pt_9, co_d, co_fl, frz_d, frz_fl, sqS_eq, sq_nx, sq_rt, sq_bk, sq_ct, sq_ex, skp_eq, rtS_eq, asS_eq, ifS_eq, exS_eq, raS_eq, fin_rt, fin_nx, fin_ex, eC_eq, oV_eq, oVr_some, eV_eq, eVr_some, eM_eq, eMr_some, op1_eq, op2_eq, opn_eq, nilA_eq, consA_eq, tst_eq, tstB_ok, ifE_eq, ifR_t, ifR_f, andT_eq, orT_eq, andR_t, andR_f, orR_f, orR_t, notT_eq, dsO_nil, dsO_cons, tupE_eq, lstE_eq, tupR_some, lstR_some, callE_eq, callR_ok, callR_ex, ar_v, ar_s, refs_nil, refs_v, refs_s, bk_nil, bk_v, bk_s, bk_e, noP_eq, soP_eq, soB_int, smE_eq, smR_str, slE_eq, binA_i, binS_i, cmpE_i, cmpE_s, cmpE_b, cmpN_i, cmpN_s, cmpN_b, cmpI_i, absD_i, maxD_i, intD_i, intD_b, negD_i, lenD_l, lenD_t, ixD_t0, ixD_t1, fzc_eq, upc_eq, ooc_eq, hide_nil, hide_cons, back_nil, back_cons, bk_v1, bk_v2, nmG_eq, yesT_eq, compE_eq, compK_ok, anyS_eq, anyR_some, srO_v, srO_vs, srO_s, srR_fl, srR_d, srR_str, cmpIn_s, cmpNin_s, cm2_eq, cmR_t, cmR_f, andE_eq, orE_eq, notE_eq, andV_t, andV_f, orV_f, orV_t, notV_b, parS_eq, parR_2, callO_v, callO_vv, callO_vvv, callO_s, callO_sv, callO_svv, slD_l, allD_1, allD_2, isN_eq, forS_eq, forR_nil, enumS_eq, enR_some, isiD_str, lkN_s, lkN_v0, lkN_vi, lkR_0, lkR_i, lkR_fl, lkR_l, lkR_ex, beq_tt, beq_tf, beq_ft, beq_ff, siS_eq, siQ_fl, siR_0, siR_2, ixD_l0, ixD_l1, ixD_l2, bitsD_i, rngS1_eq, bd_ok, bd_ex, bs_ok, bs_ex, fz_d, fz_fl, fz_ex, up_ok, up_ex, oo_ok, oo_ex, lk_v, lk_s, lks_nil, lks_cons, ret_some, ret_none, Option.bind_some, Option.map_some, List.length_cons, List.length_nil, if_true, Bool.false_eq_true, if_false, Bool.not_true, Bool.not_false, List.map_cons, List.map_nil, List.cons_append, List.nil_append, List.append_nil, Nat.reduceAdd, Nat.reduceLT, Nat.zero_add, Nat.reduceLeDiff, eq_self, true_and, and_true, h1, divQ g1 (g3 _)]
  exact ⟨_, rfl⟩
/-! words of fractions -/
def wds (a b : Int) : Str := if b = 1 then Str.ofString (toString a) else Str.ofString (toString a) ++ "/" ++ Str.ofString (toString b)
theorem wds_len {a b : Int} (ha : a.natAbs < 10 ^ 10) (hb : b.natAbs < 10 ^ 10) : (wds a b).length ≤ 23 := by
  have h1 := len_small ha
  have h2 := len_small hb
  unfold wds
  split
  · omega
  · rw [PySem.Str.length_append, PySem.Str.length_append]
    have : ("/" : Str).length = 1 := rfl
    omega
theorem e_fraction_words (a b : Int) (ha : a.natAbs < 10 ^ 10) (hb : b.natAbs < 10 ^ 10) : ∃ ρ, f_fraction_words [some (.d (.tuple [.int a, .int b]))] = .ok (.d (.str (wds a b))) ρ := by
  rw [show f_fraction_words [some (.d (.tuple [.int a, .int b]))] = finR 1 [] (s_fraction_words [some (.d (.tuple [.int a, .int b]))]) from bodyR_eq ..]
  unfold s_fraction_words
  have h1 := len_small ha
  have h2 := len_small hb
  have h3 : (Str.ofString (toString a)).length + ("/" : Str).length ≤ 16777216 := by have : ("/" : Str).length = 1 := rfl; omega
  have h4 : (Str.ofString (toString a) ++ ("/" : Str)).length + (Str.ofString (toString b)).length ≤ 16777216 := by rw [PySem.Str.length_append]; have : ("/" : Str).length = 1 := rfl; omega
  unfold wds
  by_cases h : b = 1
  · have hb1 : (b == 1) = true := by rw [h]; rfl
    simp only [gt_0, pt_0, gt_1, gt_2, gt_3, gt_4, gt_5, gt_6, gt_7, gt_8, gt_9, pt_1, pt_2, pt_3, pt_4, pt_5, pt_6, pt_7, pt_8, pt_9, co_d, co_fl, frz_d, frz_fl, sqS_eq, sq_nx, sq_rt, sq_bk, sq_ct, sq_ex, skp_eq, rtS_eq, asS_eq, ifS_eq, exS_eq, raS_eq, fin_rt, fin_nx, fin_ex, eC_eq, oV_eq, oVr_some, eV_eq, eVr_some, eM_eq, eMr_some, op1_eq, op2_eq, opn_eq, nilA_eq, consA_eq, tst_eq, tstB_ok, ifE_eq, ifR_t, ifR_f, andT_eq, orT_eq, andR_t, andR_f, orR_f, orR_t, notT_eq, dsO_nil, dsO_cons, tupE_eq, lstE_eq, tupR_some, lstR_some, callE_eq, callR_ok, callR_ex, ar_v, ar_s, refs_nil, refs_v, refs_s, bk_nil, bk_v, bk_s, bk_e, noP_eq, soP_eq, soB_int, smE_eq, smR_str, slE_eq, binA_i, binS_i, cmpE_i, cmpE_s, cmpE_b, cmpN_i, cmpN_s, cmpN_b, cmpI_i, absD_i, maxD_i, intD_i, intD_b, negD_i, lenD_l, lenD_t, ixD_t0, ixD_t1, fzc_eq, upc_eq, ooc_eq, hide_nil, hide_cons, back_nil, back_cons, bk_v1, bk_v2, nmG_eq, yesT_eq, compE_eq, compK_ok, anyS_eq, anyR_some, srO_v, srO_vs, srO_s, srR_fl, srR_d, srR_str, cmpIn_s, cmpNin_s, cm2_eq, cmR_t, cmR_f, andE_eq, orE_eq, notE_eq, andV_t, andV_f, orV_f, orV_t, notV_b, parS_eq, parR_2, callO_v, callO_vv, callO_vvv, callO_s, callO_sv, callO_svv, slD_l, allD_1, allD_2, isN_eq, forS_eq, forR_nil, enumS_eq, enR_some, isiD_str, lkN_s, lkN_v0, lkN_vi, lkR_0, lkR_i, lkR_fl, lkR_l, lkR_ex, beq_tt, beq_tf, beq_ft, beq_ff, siS_eq, siQ_fl, siR_0, siR_2, ixD_l0, ixD_l1, ixD_l2, bitsD_i, rngS1_eq, bd_ok, bd_ex, bs_ok, bs_ex, fz_d, fz_fl, fz_ex, up_ok, up_ex, oo_ok, oo_ex, lk_v, lk_s, lks_nil, lks_cons, ret_some, ret_none, Option.bind_some, Option.map_some, List.length_cons, List.length_nil, if_true, Bool.false_eq_true, if_false, Bool.not_true, Bool.not_false, List.map_cons, List.map_nil, List.cons_append, List.nil_append, List.append_nil, Nat.reduceAdd, Nat.reduceLT, Nat.zero_add, Nat.reduceLeDiff, eq_self, true_and, and_true, hb1, strD_i (log_small ha), if_pos h]
    exact ⟨_, rfl⟩
  · have hb1 : (b == 1) = false := beq_false_of_ne h
    simp only [gt_0, pt_0, gt_1, gt_2, gt_3, gt_4, gt_5, gt_6, gt_7, gt_8, gt_9, pt_1, pt_2, pt_3, pt_4, pt_5, pt_6, pt_7, pt_8, pt_9, co_d, co_fl, frz_d, frz_fl, sqS_eq, sq_nx, sq_rt, sq_bk, sq_ct, sq_ex, skp_eq, rtS_eq, asS_eq, ifS_eq, exS_eq, raS_eq, fin_rt, fin_nx, fin_ex, eC_eq, oV_eq, oVr_some, eV_eq, eVr_some, eM_eq, eMr_some, op1_eq, op2_eq, opn_eq, nilA_eq, consA_eq, tst_eq, tstB_ok, ifE_eq, ifR_t, ifR_f, andT_eq, orT_eq, andR_t, andR_f, orR_f, orR_t, notT_eq, dsO_nil, dsO_cons, tupE_eq, lstE_eq, tupR_some, lstR_some, callE_eq, callR_ok, callR_ex, ar_v, ar_s, refs_nil, refs_v, refs_s, bk_nil, bk_v, bk_s, bk_e, noP_eq, soP_eq, soB_int, smE_eq, smR_str, slE_eq, binA_i, binS_i, cmpE_i, cmpE_s, cmpE_b, cmpN_i, cmpN_s, cmpN_b, cmpI_i, absD_i, maxD_i, intD_i, intD_b, negD_i, lenD_l, lenD_t, ixD_t0, ixD_t1, fzc_eq, upc_eq, ooc_eq, hide_nil, hide_cons, back_nil, back_cons, bk_v1, bk_v2, nmG_eq, yesT_eq, compE_eq, compK_ok, anyS_eq, anyR_some, srO_v, srO_vs, srO_s, srR_fl, srR_d, srR_str, cmpIn_s, cmpNin_s, cm2_eq, cmR_t, cmR_f, andE_eq, orE_eq, notE_eq, andV_t, andV_f, orV_f, orV_t, notV_b, parS_eq, parR_2, callO_v, callO_vv, callO_vvv, callO_s, callO_sv, callO_svv, slD_l, allD_1, allD_2, isN_eq, forS_eq, forR_nil, enumS_eq, enR_some, isiD_str, lkN_s, lkN_v0, lkN_vi, lkR_0, lkR_i, lkR_fl, lkR_l, lkR_ex, beq_tt, beq_tf, beq_ft, beq_ff, siS_eq, siQ_fl, siR_0, siR_2, ixD_l0, ixD_l1, ixD_l2, bitsD_i, rngS1_eq, bd_ok, bd_ex, bs_ok, bs_ex, fz_d, fz_fl, fz_ex, up_ok, up_ex, oo_ok, oo_ex, lk_v, lk_s, lks_nil, lks_cons, ret_some, ret_none, Option.bind_some, Option.map_some, List.length_cons, List.length_nil, if_true, Bool.false_eq_true, if_false, Bool.not_true, Bool.not_false, List.map_cons, List.map_nil, List.cons_append, List.nil_append, List.append_nil, Nat.reduceAdd, Nat.reduceLT, Nat.zero_add, Nat.reduceLeDiff, eq_self, true_and, and_true, hb1, strD_i (log_small ha), strD_i (log_small hb), binA_s h3, binA_s h4, if_neg h]
    exact ⟨_, rfl⟩
theorem e_law_word (a b : Int) (ha : a.natAbs < 10 ^ 10) (hb : b.natAbs < 10 ^ 10) : ∃ ρ, f_x_law_word [some (.d (.tuple [.int a, .int b]))] = .ok (.d (.str (wds a b))) ρ := by
  rw [show f_x_law_word [some (.d (.tuple [.int a, .int b]))] = finR 1 [] (s_x_law_word [some (.d (.tuple [.int a, .int b]))]) from bodyR_eq ..]
  unfold s_x_law_word
  have h1 := len_small ha
  have h2 := len_small hb
  have h3 : (Str.ofString (toString a)).length + ("/" : Str).length ≤ 16777216 := by have : ("/" : Str).length = 1 := rfl; omega
  have h4 : (Str.ofString (toString a) ++ ("/" : Str)).length + (Str.ofString (toString b)).length ≤ 16777216 := by rw [PySem.Str.length_append]; have : ("/" : Str).length = 1 := rfl; omega
  unfold wds
  by_cases h : b = 1
  · have hb1 : (b == 1) = true := by rw [h]; rfl
    simp only [gt_0, pt_0, gt_1, gt_2, gt_3, gt_4, gt_5, gt_6, gt_7, gt_8, gt_9, pt_1, pt_2, pt_3, pt_4, pt_5, pt_6, pt_7, pt_8, pt_9, co_d, co_fl, frz_d, frz_fl, sqS_eq, sq_nx, sq_rt, sq_bk, sq_ct, sq_ex, skp_eq, rtS_eq, asS_eq, ifS_eq, exS_eq, raS_eq, fin_rt, fin_nx, fin_ex, eC_eq, oV_eq, oVr_some, eV_eq, eVr_some, eM_eq, eMr_some, op1_eq, op2_eq, opn_eq, nilA_eq, consA_eq, tst_eq, tstB_ok, ifE_eq, ifR_t, ifR_f, andT_eq, orT_eq, andR_t, andR_f, orR_f, orR_t, notT_eq, dsO_nil, dsO_cons, tupE_eq, lstE_eq, tupR_some, lstR_some, callE_eq, callR_ok, callR_ex, ar_v, ar_s, refs_nil, refs_v, refs_s, bk_nil, bk_v, bk_s, bk_e, noP_eq, soP_eq, soB_int, smE_eq, smR_str, slE_eq, binA_i, binS_i, cmpE_i, cmpE_s, cmpE_b, cmpN_i, cmpN_s, cmpN_b, cmpI_i, absD_i, maxD_i, intD_i, intD_b, negD_i, lenD_l, lenD_t, ixD_t0, ixD_t1, fzc_eq, upc_eq, ooc_eq, hide_nil, hide_cons, back_nil, back_cons, bk_v1, bk_v2, nmG_eq, yesT_eq, compE_eq, compK_ok, anyS_eq, anyR_some, srO_v, srO_vs, srO_s, srR_fl, srR_d, srR_str, cmpIn_s, cmpNin_s, cm2_eq, cmR_t, cmR_f, andE_eq, orE_eq, notE_eq, andV_t, andV_f, orV_f, orV_t, notV_b, parS_eq, parR_2, callO_v, callO_vv, callO_vvv, callO_s, callO_sv, callO_svv, slD_l, allD_1, allD_2, isN_eq, forS_eq, forR_nil, enumS_eq, enR_some, isiD_str, lkN_s, lkN_v0, lkN_vi, lkR_0, lkR_i, lkR_fl, lkR_l, lkR_ex, beq_tt, beq_tf, beq_ft, beq_ff, siS_eq, siQ_fl, siR_0, siR_2, ixD_l0, ixD_l1, ixD_l2, bitsD_i, rngS1_eq, bd_ok, bd_ex, bs_ok, bs_ex, fz_d, fz_fl, fz_ex, up_ok, up_ex, oo_ok, oo_ex, lk_v, lk_s, lks_nil, lks_cons, ret_some, ret_none, Option.bind_some, Option.map_some, List.length_cons, List.length_nil, if_true, Bool.false_eq_true, if_false, Bool.not_true, Bool.not_false, List.map_cons, List.map_nil, List.cons_append, List.nil_append, List.append_nil, Nat.reduceAdd, Nat.reduceLT, Nat.zero_add, Nat.reduceLeDiff, eq_self, true_and, and_true, hb1, strD_i (log_small ha), if_pos h]
    exact ⟨_, rfl⟩
  · have hb1 : (b == 1) = false := beq_false_of_ne h
    simp only [gt_0, pt_0, gt_1, gt_2, gt_3, gt_4, gt_5, gt_6, gt_7, gt_8, gt_9, pt_1, pt_2, pt_3, pt_4, pt_5, pt_6, pt_7, pt_8, pt_9, co_d, co_fl, frz_d, frz_fl, sqS_eq, sq_nx, sq_rt, sq_bk, sq_ct, sq_ex, skp_eq, rtS_eq, asS_eq, ifS_eq, exS_eq, raS_eq, fin_rt, fin_nx, fin_ex, eC_eq, oV_eq, oVr_some, eV_eq, eVr_some, eM_eq, eMr_some, op1_eq, op2_eq, opn_eq, nilA_eq, consA_eq, tst_eq, tstB_ok, ifE_eq, ifR_t, ifR_f, andT_eq, orT_eq, andR_t, andR_f, orR_f, orR_t, notT_eq, dsO_nil, dsO_cons, tupE_eq, lstE_eq, tupR_some, lstR_some, callE_eq, callR_ok, callR_ex, ar_v, ar_s, refs_nil, refs_v, refs_s, bk_nil, bk_v, bk_s, bk_e, noP_eq, soP_eq, soB_int, smE_eq, smR_str, slE_eq, binA_i, binS_i, cmpE_i, cmpE_s, cmpE_b, cmpN_i, cmpN_s, cmpN_b, cmpI_i, absD_i, maxD_i, intD_i, intD_b, negD_i, lenD_l, lenD_t, ixD_t0, ixD_t1, fzc_eq, upc_eq, ooc_eq, hide_nil, hide_cons, back_nil, back_cons, bk_v1, bk_v2, nmG_eq, yesT_eq, compE_eq, compK_ok, anyS_eq, anyR_some, srO_v, srO_vs, srO_s, srR_fl, srR_d, srR_str, cmpIn_s, cmpNin_s, cm2_eq, cmR_t, cmR_f, andE_eq, orE_eq, notE_eq, andV_t, andV_f, orV_f, orV_t, notV_b, parS_eq, parR_2, callO_v, callO_vv, callO_vvv, callO_s, callO_sv, callO_svv, slD_l, allD_1, allD_2, isN_eq, forS_eq, forR_nil, enumS_eq, enR_some, isiD_str, lkN_s, lkN_v0, lkN_vi, lkR_0, lkR_i, lkR_fl, lkR_l, lkR_ex, beq_tt, beq_tf, beq_ft, beq_ff, siS_eq, siQ_fl, siR_0, siR_2, ixD_l0, ixD_l1, ixD_l2, bitsD_i, rngS1_eq, bd_ok, bd_ex, bs_ok, bs_ex, fz_d, fz_fl, fz_ex, up_ok, up_ex, oo_ok, oo_ex, lk_v, lk_s, lks_nil, lks_cons, ret_some, ret_none, Option.bind_some, Option.map_some, List.length_cons, List.length_nil, if_true, Bool.false_eq_true, if_false, Bool.not_true, Bool.not_false, List.map_cons, List.map_nil, List.cons_append, List.nil_append, List.append_nil, Nat.reduceAdd, Nat.reduceLT, Nat.zero_add, Nat.reduceLeDiff, eq_self, true_and, and_true, hb1, strD_i (log_small ha), strD_i (log_small hb), binA_s h3, binA_s h4, if_neg h]
    exact ⟨_, rfl⟩
theorem e_law_digits (z : Str) (hz : z.length ≤ 16777216) (hok : PyData.strOk z = true) : ∃ ρ, f_x_law_digits [some (.d (.str z))] = .ok (.d (.bool (dgs z))) ρ := by
  rw [show f_x_law_digits [some (.d (.str z))] = finR 1 [] (s_x_law_digits [some (.d (.str z)), none]) from bodyR_eq ..]
  unfold s_x_law_digits
  have hz' : (z.cps.toList.map fun c => PyData.str ⟨#[c]⟩).length ≤ 16777216 := by rw [List.length_map, Array.length_toList]; exact hz
  let pp : PyData → Bool := fun x => match x with | .str w => !decide (w.cps.getD 0 0 ∈ dgS.cps.toList) | _ => false
  have cg : compGo ([1] ++ []) (nmG 1) (tst (op2 (cmpIn true) (oV 1) (ooc (eC (PyData.str dgS))))) (eV 1) (z.cps.toList.map fun c => PyData.str ⟨#[c]⟩) (hide ([1] ++ []) [some (.d (.str z)), none]) =
      some (((z.cps.toList.map fun c => PyData.str ⟨#[c]⟩).filter pp).map id, [some (.d (.str z)), none]) := by
    rw [show hide ([1] ++ []) [some (W.d (.str z)), none] = [some (W.d (.str z)), none] from rfl]
    refine compGo_filter _ id pp fun x hx => ?_
    obtain ⟨c, _, rfl⟩ := List.mem_map.mp hx
    exact ⟨_, _, _, rfl, rfl, fun _ => ⟨rfl, rfl⟩, fun _ => rfl⟩
  have an := anyR_str (show lk [some (W.d (.str z)), none] (.s 0) = some (.str z) from rfl)
  have sh : SeqAt.shaped (.list (((z.cps.toList.map fun c => PyData.str ⟨#[c]⟩).filter pp).map id)) = true := by
    refine shaped_list (n := 2) (by decide) fun x hx => ?_
    rw [List.map_id] at hx
    obtain ⟨c, hc, rfl⟩ := List.mem_map.mp (List.mem_filter.mp hx).1
    exact flat_str (ok_sign hok hc)
  have sn : SeqAt.shaped (.list []) = true := shaped_list (n := 2) (by decide) fun x hx => (nomatch hx)
  have em : (((z.cps.toList.map fun c => PyData.str ⟨#[c]⟩).filter pp).map id).isEmpty = z.cps.toList.all (fun c => decide (c ∈ dgS.cps.toList)) := by
    rw [List.map_id, Bool.eq_iff_iff, List.isEmpty_iff, List.filter_eq_nil_iff, List.all_eq_true]
    constructor
    · intro h c hc
      have := h _ (List.mem_map.mpr ⟨c, hc, rfl⟩)
      simpa [pp] using this
    · intro h x hx
      obtain ⟨c, hc, rfl⟩ := List.mem_map.mp hx
      have := h c hc
      simpa [pp] using this
  cases h1 : decide (1 ≤ z.length) with
  | false =>
    have e1 : decide ((1 : Int) ≤ (z.length : Int)) = false := by simp at h1 ⊢; omega
    have ed : dgs z = false := by unfold dgs; rw [h1]; rfl
    simp only [gt_0, pt_0, gt_1, gt_2, gt_3, gt_4, gt_5, gt_6, gt_7, gt_8, gt_9, pt_1, pt_2, pt_3, pt_4, pt_5, pt_6, pt_7, pt_8, pt_9, co_d, co_fl, frz_d, frz_fl, sqS_eq, sq_nx, sq_rt, sq_bk, sq_ct, sq_ex, skp_eq, rtS_eq, asS_eq, ifS_eq, exS_eq, raS_eq, fin_rt, fin_nx, fin_ex, eC_eq, oV_eq, oVr_some, eV_eq, eVr_some, eM_eq, eMr_some, op1_eq, op2_eq, opn_eq, nilA_eq, consA_eq, tst_eq, tstB_ok, ifE_eq, ifR_t, ifR_f, andT_eq, orT_eq, andR_t, andR_f, orR_f, orR_t, notT_eq, dsO_nil, dsO_cons, tupE_eq, lstE_eq, tupR_some, lstR_some, callE_eq, callR_ok, callR_ex, ar_v, ar_s, refs_nil, refs_v, refs_s, bk_nil, bk_v, bk_s, bk_e, noP_eq, soP_eq, soB_int, smE_eq, smR_str, slE_eq, binA_i, binS_i, cmpE_i, cmpE_s, cmpE_b, cmpN_i, cmpN_s, cmpN_b, cmpI_i, absD_i, maxD_i, intD_i, intD_b, negD_i, lenD_l, lenD_t, ixD_t0, ixD_t1, fzc_eq, upc_eq, ooc_eq, hide_nil, hide_cons, back_nil, back_cons, bk_v1, bk_v2, nmG_eq, yesT_eq, compE_eq, compK_ok, anyS_eq, anyR_some, srO_v, srO_vs, srO_s, srR_fl, srR_d, srR_str, cmpIn_s, cmpNin_s, cm2_eq, cmR_t, cmR_f, andE_eq, orE_eq, notE_eq, andV_t, andV_f, orV_f, orV_t, notV_b, parS_eq, parR_2, callO_v, callO_vv, callO_vvv, callO_s, callO_sv, callO_svv, slD_l, allD_1, allD_2, isN_eq, forS_eq, forR_nil, enumS_eq, enR_some, isiD_str, lkN_s, lkN_v0, lkN_vi, lkR_0, lkR_i, lkR_fl, lkR_l, lkR_ex, beq_tt, beq_tf, beq_ft, beq_ff, siS_eq, siQ_fl, siR_0, siR_2, ixD_l0, ixD_l1, ixD_l2, bitsD_i, rngS1_eq, bd_ok, bd_ex, bs_ok, bs_ex, fz_d, fz_fl, fz_ex, up_ok, up_ex, oo_ok, oo_ex, lk_v, lk_s, lks_nil, lks_cons, ret_some, ret_none, Option.bind_some, Option.map_some, List.length_cons, List.length_nil, if_true, Bool.false_eq_true, if_false, Bool.not_true, Bool.not_false, List.map_cons, List.map_nil, List.cons_append, List.nil_append, List.append_nil, Nat.reduceAdd, Nat.reduceLT, Nat.zero_add, Nat.reduceLeDiff, eq_self, true_and, and_true, lenD_s hz, e1, ed]
    exact ⟨_, rfl⟩
  | true =>
    have e1 : decide ((1 : Int) ≤ (z.length : Int)) = true := by simp at h1 ⊢; omega
    cases h2 : decide (z.length ≤ 9) with
    | false =>
      have e2 : decide ((z.length : Int) ≤ 9) = false := by simp at h2 ⊢; omega
      have ed : dgs z = false := by unfold dgs; rw [h1, h2]; rfl
      simp only [gt_0, pt_0, gt_1, gt_2, gt_3, gt_4, gt_5, gt_6, gt_7, gt_8, gt_9, pt_1, pt_2, pt_3, pt_4, pt_5, pt_6, pt_7, pt_8, pt_9, co_d, co_fl, frz_d, frz_fl, sqS_eq, sq_nx, sq_rt, sq_bk, sq_ct, sq_ex, skp_eq, rtS_eq, asS_eq, ifS_eq, exS_eq, raS_eq, fin_rt, fin_nx, fin_ex, eC_eq, oV_eq, oVr_some, eV_eq, eVr_some, eM_eq, eMr_some, op1_eq, op2_eq, opn_eq, nilA_eq, consA_eq, tst_eq, tstB_ok, ifE_eq, ifR_t, ifR_f, andT_eq, orT_eq, andR_t, andR_f, orR_f, orR_t, notT_eq, dsO_nil, dsO_cons, tupE_eq, lstE_eq, tupR_some, lstR_some, callE_eq, callR_ok, callR_ex, ar_v, ar_s, refs_nil, refs_v, refs_s, bk_nil, bk_v, bk_s, bk_e, noP_eq, soP_eq, soB_int, smE_eq, smR_str, slE_eq, binA_i, binS_i, cmpE_i, cmpE_s, cmpE_b, cmpN_i, cmpN_s, cmpN_b, cmpI_i, absD_i, maxD_i, intD_i, intD_b, negD_i, lenD_l, lenD_t, ixD_t0, ixD_t1, fzc_eq, upc_eq, ooc_eq, hide_nil, hide_cons, back_nil, back_cons, bk_v1, bk_v2, nmG_eq, yesT_eq, compE_eq, compK_ok, anyS_eq, anyR_some, srO_v, srO_vs, srO_s, srR_fl, srR_d, srR_str, cmpIn_s, cmpNin_s, cm2_eq, cmR_t, cmR_f, andE_eq, orE_eq, notE_eq, andV_t, andV_f, orV_f, orV_t, notV_b, parS_eq, parR_2, callO_v, callO_vv, callO_vvv, callO_s, callO_sv, callO_svv, slD_l, allD_1, allD_2, isN_eq, forS_eq, forR_nil, enumS_eq, enR_some, isiD_str, lkN_s, lkN_v0, lkN_vi, lkR_0, lkR_i, lkR_fl, lkR_l, lkR_ex, beq_tt, beq_tf, beq_ft, beq_ff, siS_eq, siQ_fl, siR_0, siR_2, ixD_l0, ixD_l1, ixD_l2, bitsD_i, rngS1_eq, bd_ok, bd_ex, bs_ok, bs_ex, fz_d, fz_fl, fz_ex, up_ok, up_ex, oo_ok, oo_ex, lk_v, lk_s, lks_nil, lks_cons, ret_some, ret_none, Option.bind_some, Option.map_some, List.length_cons, List.length_nil, if_true, Bool.false_eq_true, if_false, Bool.not_true, Bool.not_false, List.map_cons, List.map_nil, List.cons_append, List.nil_append, List.append_nil, Nat.reduceAdd, Nat.reduceLT, Nat.zero_add, Nat.reduceLeDiff, eq_self, true_and, and_true, lenD_s hz, e1, e2, ed]
      exact ⟨_, rfl⟩
    | true =>
      have e2 : decide ((z.length : Int) ≤ 9) = true := by simp at h2 ⊢; omega
      cases h3 : z.cps.toList.all (fun c => decide (c ∈ dgS.cps.toList)) with
      | false =>
        have ed : dgs z = false := by unfold dgs; rw [h1, h2, h3]; rfl
        simp only [gt_0, pt_0, gt_1, gt_2, gt_3, gt_4, gt_5, gt_6, gt_7, gt_8, gt_9, pt_1, pt_2, pt_3, pt_4, pt_5, pt_6, pt_7, pt_8, pt_9, co_d, co_fl, frz_d, frz_fl, sqS_eq, sq_nx, sq_rt, sq_bk, sq_ct, sq_ex, skp_eq, rtS_eq, asS_eq, ifS_eq, exS_eq, raS_eq, fin_rt, fin_nx, fin_ex, eC_eq, oV_eq, oVr_some, eV_eq, eVr_some, eM_eq, eMr_some, op1_eq, op2_eq, opn_eq, nilA_eq, consA_eq, tst_eq, tstB_ok, ifE_eq, ifR_t, ifR_f, andT_eq, orT_eq, andR_t, andR_f, orR_f, orR_t, notT_eq, dsO_nil, dsO_cons, tupE_eq, lstE_eq, tupR_some, lstR_some, callE_eq, callR_ok, callR_ex, ar_v, ar_s, refs_nil, refs_v, refs_s, bk_nil, bk_v, bk_s, bk_e, noP_eq, soP_eq, soB_int, smE_eq, smR_str, slE_eq, binA_i, binS_i, cmpE_i, cmpE_s, cmpE_b, cmpN_i, cmpN_s, cmpN_b, cmpI_i, absD_i, maxD_i, intD_i, intD_b, negD_i, lenD_l, lenD_t, ixD_t0, ixD_t1, fzc_eq, upc_eq, ooc_eq, hide_nil, hide_cons, back_nil, back_cons, bk_v1, bk_v2, nmG_eq, yesT_eq, compE_eq, compK_ok, anyS_eq, anyR_some, srO_v, srO_vs, srO_s, srR_fl, srR_d, srR_str, cmpIn_s, cmpNin_s, cm2_eq, cmR_t, cmR_f, andE_eq, orE_eq, notE_eq, andV_t, andV_f, orV_f, orV_t, notV_b, parS_eq, parR_2, callO_v, callO_vv, callO_vvv, callO_s, callO_sv, callO_svv, slD_l, allD_1, allD_2, isN_eq, forS_eq, forR_nil, enumS_eq, enR_some, isiD_str, lkN_s, lkN_v0, lkN_vi, lkR_0, lkR_i, lkR_fl, lkR_l, lkR_ex, beq_tt, beq_tf, beq_ft, beq_ff, siS_eq, siQ_fl, siR_0, siR_2, ixD_l0, ixD_l1, ixD_l2, bitsD_i, rngS1_eq, bd_ok, bd_ex, bs_ok, bs_ex, fz_d, fz_fl, fz_ex, up_ok, up_ex, oo_ok, oo_ex, lk_v, lk_s, lks_nil, lks_cons, ret_some, ret_none, Option.bind_some, Option.map_some, List.length_cons, List.length_nil, if_true, Bool.false_eq_true, if_false, Bool.not_true, Bool.not_false, List.map_cons, List.map_nil, List.cons_append, List.nil_append, List.append_nil, Nat.reduceAdd, Nat.reduceLT, Nat.zero_add, Nat.reduceLeDiff, eq_self, true_and, and_true, lenD_s hz, e1, e2, an]
        rw [compR_ok hz' cg]
        simp only [gt_0, pt_0, gt_1, gt_2, gt_3, gt_4, gt_5, gt_6, gt_7, gt_8, gt_9, pt_1, pt_2, pt_3, pt_4, pt_5, pt_6, pt_7, pt_8, pt_9, co_d, co_fl, frz_d, frz_fl, sqS_eq, sq_nx, sq_rt, sq_bk, sq_ct, sq_ex, skp_eq, rtS_eq, asS_eq, ifS_eq, exS_eq, raS_eq, fin_rt, fin_nx, fin_ex, eC_eq, oV_eq, oVr_some, eV_eq, eVr_some, eM_eq, eMr_some, op1_eq, op2_eq, opn_eq, nilA_eq, consA_eq, tst_eq, tstB_ok, ifE_eq, ifR_t, ifR_f, andT_eq, orT_eq, andR_t, andR_f, orR_f, orR_t, notT_eq, dsO_nil, dsO_cons, tupE_eq, lstE_eq, tupR_some, lstR_some, callE_eq, callR_ok, callR_ex, ar_v, ar_s, refs_nil, refs_v, refs_s, bk_nil, bk_v, bk_s, bk_e, noP_eq, soP_eq, soB_int, smE_eq, smR_str, slE_eq, binA_i, binS_i, cmpE_i, cmpE_s, cmpE_b, cmpN_i, cmpN_s, cmpN_b, cmpI_i, absD_i, maxD_i, intD_i, intD_b, negD_i, lenD_l, lenD_t, ixD_t0, ixD_t1, fzc_eq, upc_eq, ooc_eq, hide_nil, hide_cons, back_nil, back_cons, bk_v1, bk_v2, nmG_eq, yesT_eq, compE_eq, compK_ok, anyS_eq, anyR_some, srO_v, srO_vs, srO_s, srR_fl, srR_d, srR_str, cmpIn_s, cmpNin_s, cm2_eq, cmR_t, cmR_f, andE_eq, orE_eq, notE_eq, andV_t, andV_f, orV_f, orV_t, notV_b, parS_eq, parR_2, callO_v, callO_vv, callO_vvv, callO_s, callO_sv, callO_svv, slD_l, allD_1, allD_2, isN_eq, forS_eq, forR_nil, enumS_eq, enR_some, isiD_str, lkN_s, lkN_v0, lkN_vi, lkR_0, lkR_i, lkR_fl, lkR_l, lkR_ex, beq_tt, beq_tf, beq_ft, beq_ff, siS_eq, siQ_fl, siR_0, siR_2, ixD_l0, ixD_l1, ixD_l2, bitsD_i, rngS1_eq, bd_ok, bd_ex, bs_ok, bs_ex, fz_d, fz_fl, fz_ex, up_ok, up_ex, oo_ok, oo_ex, lk_v, lk_s, lks_nil, lks_cons, ret_some, ret_none, Option.bind_some, Option.map_some, List.length_cons, List.length_nil, if_true, Bool.false_eq_true, if_false, Bool.not_true, Bool.not_false, List.map_cons, List.map_nil, List.cons_append, List.nil_append, List.append_nil, Nat.reduceAdd, Nat.reduceLT, Nat.zero_add, Nat.reduceLeDiff, eq_self, true_and, and_true, cmpE_l sh sn, eqv_nil, em, h3, ed, Nat.zero_le]
        exact ⟨_, rfl⟩
      | true =>
        have h0 := at0 z (of_decide_eq_true h1)
        have el : ((z.length : Int) == 1) = (z.length == 1) := by
          rw [Bool.eq_iff_iff]
          simp
          omega
        have ed : dgs z = ((!((⟨#[z.cps.getD 0 0]⟩ : Str) == "0")) || z.length == 1) := by unfold dgs; rw [h1, h2, h3]; rfl
        simp only [gt_0, pt_0, gt_1, gt_2, gt_3, gt_4, gt_5, gt_6, gt_7, gt_8, gt_9, pt_1, pt_2, pt_3, pt_4, pt_5, pt_6, pt_7, pt_8, pt_9, co_d, co_fl, frz_d, frz_fl, sqS_eq, sq_nx, sq_rt, sq_bk, sq_ct, sq_ex, skp_eq, rtS_eq, asS_eq, ifS_eq, exS_eq, raS_eq, fin_rt, fin_nx, fin_ex, eC_eq, oV_eq, oVr_some, eV_eq, eVr_some, eM_eq, eMr_some, op1_eq, op2_eq, opn_eq, nilA_eq, consA_eq, tst_eq, tstB_ok, ifE_eq, ifR_t, ifR_f, andT_eq, orT_eq, andR_t, andR_f, orR_f, orR_t, notT_eq, dsO_nil, dsO_cons, tupE_eq, lstE_eq, tupR_some, lstR_some, callE_eq, callR_ok, callR_ex, ar_v, ar_s, refs_nil, refs_v, refs_s, bk_nil, bk_v, bk_s, bk_e, noP_eq, soP_eq, soB_int, smE_eq, smR_str, slE_eq, binA_i, binS_i, cmpE_i, cmpE_s, cmpE_b, cmpN_i, cmpN_s, cmpN_b, cmpI_i, absD_i, maxD_i, intD_i, intD_b, negD_i, lenD_l, lenD_t, ixD_t0, ixD_t1, fzc_eq, upc_eq, ooc_eq, hide_nil, hide_cons, back_nil, back_cons, bk_v1, bk_v2, nmG_eq, yesT_eq, compE_eq, compK_ok, anyS_eq, anyR_some, srO_v, srO_vs, srO_s, srR_fl, srR_d, srR_str, cmpIn_s, cmpNin_s, cm2_eq, cmR_t, cmR_f, andE_eq, orE_eq, notE_eq, andV_t, andV_f, orV_f, orV_t, notV_b, parS_eq, parR_2, callO_v, callO_vv, callO_vvv, callO_s, callO_sv, callO_svv, slD_l, allD_1, allD_2, isN_eq, forS_eq, forR_nil, enumS_eq, enR_some, isiD_str, lkN_s, lkN_v0, lkN_vi, lkR_0, lkR_i, lkR_fl, lkR_l, lkR_ex, beq_tt, beq_tf, beq_ft, beq_ff, siS_eq, siQ_fl, siR_0, siR_2, ixD_l0, ixD_l1, ixD_l2, bitsD_i, rngS1_eq, bd_ok, bd_ex, bs_ok, bs_ex, fz_d, fz_fl, fz_ex, up_ok, up_ex, oo_ok, oo_ex, lk_v, lk_s, lks_nil, lks_cons, ret_some, ret_none, Option.bind_some, Option.map_some, List.length_cons, List.length_nil, if_true, Bool.false_eq_true, if_false, Bool.not_true, Bool.not_false, List.map_cons, List.map_nil, List.cons_append, List.nil_append, List.append_nil, Nat.reduceAdd, Nat.reduceLT, Nat.zero_add, Nat.reduceLeDiff, eq_self, true_and, and_true, lenD_s hz, e1, e2, an]
        rw [compR_ok hz' cg]
        simp only [gt_0, pt_0, gt_1, gt_2, gt_3, gt_4, gt_5, gt_6, gt_7, gt_8, gt_9, pt_1, pt_2, pt_3, pt_4, pt_5, pt_6, pt_7, pt_8, pt_9, co_d, co_fl, frz_d, frz_fl, sqS_eq, sq_nx, sq_rt, sq_bk, sq_ct, sq_ex, skp_eq, rtS_eq, asS_eq, ifS_eq, exS_eq, raS_eq, fin_rt, fin_nx, fin_ex, eC_eq, oV_eq, oVr_some, eV_eq, eVr_some, eM_eq, eMr_some, op1_eq, op2_eq, opn_eq, nilA_eq, consA_eq, tst_eq, tstB_ok, ifE_eq, ifR_t, ifR_f, andT_eq, orT_eq, andR_t, andR_f, orR_f, orR_t, notT_eq, dsO_nil, dsO_cons, tupE_eq, lstE_eq, tupR_some, lstR_some, callE_eq, callR_ok, callR_ex, ar_v, ar_s, refs_nil, refs_v, refs_s, bk_nil, bk_v, bk_s, bk_e, noP_eq, soP_eq, soB_int, smE_eq, smR_str, slE_eq, binA_i, binS_i, cmpE_i, cmpE_s, cmpE_b, cmpN_i, cmpN_s, cmpN_b, cmpI_i, absD_i, maxD_i, intD_i, intD_b, negD_i, lenD_l, lenD_t, ixD_t0, ixD_t1, fzc_eq, upc_eq, ooc_eq, hide_nil, hide_cons, back_nil, back_cons, bk_v1, bk_v2, nmG_eq, yesT_eq, compE_eq, compK_ok, anyS_eq, anyR_some, srO_v, srO_vs, srO_s, srR_fl, srR_d, srR_str, cmpIn_s, cmpNin_s, cm2_eq, cmR_t, cmR_f, andE_eq, orE_eq, notE_eq, andV_t, andV_f, orV_f, orV_t, notV_b, parS_eq, parR_2, callO_v, callO_vv, callO_vvv, callO_s, callO_sv, callO_svv, slD_l, allD_1, allD_2, isN_eq, forS_eq, forR_nil, enumS_eq, enR_some, isiD_str, lkN_s, lkN_v0, lkN_vi, lkR_0, lkR_i, lkR_fl, lkR_l, lkR_ex, beq_tt, beq_tf, beq_ft, beq_ff, siS_eq, siQ_fl, siR_0, siR_2, ixD_l0, ixD_l1, ixD_l2, bitsD_i, rngS1_eq, bd_ok, bd_ex, bs_ok, bs_ex, fz_d, fz_fl, fz_ex, up_ok, up_ex, oo_ok, oo_ex, lk_v, lk_s, lks_nil, lks_cons, ret_some, ret_none, Option.bind_some, Option.map_some, List.length_cons, List.length_nil, if_true, Bool.false_eq_true, if_false, Bool.not_true, Bool.not_false, List.map_cons, List.map_nil, List.cons_append, List.nil_append, List.append_nil, Nat.reduceAdd, Nat.reduceLT, Nat.zero_add, Nat.reduceLeDiff, eq_self, true_and, and_true, cmpE_l sh sn, eqv_nil, em, h3, ed, ixD_s hz h0, lenD_s hz, el, Nat.zero_le]
        cases ((⟨#[z.cps.getD 0 0]⟩ : Str) == "0") with
        | true =>
          simp only [gt_0, pt_0, gt_1, gt_2, gt_3, gt_4, gt_5, gt_6, gt_7, gt_8, gt_9, pt_1, pt_2, pt_3, pt_4, pt_5, pt_6, pt_7, pt_8, pt_9, co_d, co_fl, frz_d, frz_fl, sqS_eq, sq_nx, sq_rt, sq_bk, sq_ct, sq_ex, skp_eq, rtS_eq, asS_eq, ifS_eq, exS_eq, raS_eq, fin_rt, fin_nx, fin_ex, eC_eq, oV_eq, oVr_some, eV_eq, eVr_some, eM_eq, eMr_some, op1_eq, op2_eq, opn_eq, nilA_eq, consA_eq, tst_eq, tstB_ok, ifE_eq, ifR_t, ifR_f, andT_eq, orT_eq, andR_t, andR_f, orR_f, orR_t, notT_eq, dsO_nil, dsO_cons, tupE_eq, lstE_eq, tupR_some, lstR_some, callE_eq, callR_ok, callR_ex, ar_v, ar_s, refs_nil, refs_v, refs_s, bk_nil, bk_v, bk_s, bk_e, noP_eq, soP_eq, soB_int, smE_eq, smR_str, slE_eq, binA_i, binS_i, cmpE_i, cmpE_s, cmpE_b, cmpN_i, cmpN_s, cmpN_b, cmpI_i, absD_i, maxD_i, intD_i, intD_b, negD_i, lenD_l, lenD_t, ixD_t0, ixD_t1, fzc_eq, upc_eq, ooc_eq, hide_nil, hide_cons, back_nil, back_cons, bk_v1, bk_v2, nmG_eq, yesT_eq, compE_eq, compK_ok, anyS_eq, anyR_some, srO_v, srO_vs, srO_s, srR_fl, srR_d, srR_str, cmpIn_s, cmpNin_s, cm2_eq, cmR_t, cmR_f, andE_eq, orE_eq, notE_eq, andV_t, andV_f, orV_f, orV_t, notV_b, parS_eq, parR_2, callO_v, callO_vv, callO_vvv, callO_s, callO_sv, callO_svv, slD_l, allD_1, allD_2, isN_eq, forS_eq, forR_nil, enumS_eq, enR_some, isiD_str, lkN_s, lkN_v0, lkN_vi, lkR_0, lkR_i, lkR_fl, lkR_l, lkR_ex, beq_tt, beq_tf, beq_ft, beq_ff, siS_eq, siQ_fl, siR_0, siR_2, ixD_l0, ixD_l1, ixD_l2, bitsD_i, rngS1_eq, bd_ok, bd_ex, bs_ok, bs_ex, fz_d, fz_fl, fz_ex, up_ok, up_ex, oo_ok, oo_ex, lk_v, lk_s, lks_nil, lks_cons, ret_some, ret_none, Option.bind_some, Option.map_some, List.length_cons, List.length_nil, if_true, Bool.false_eq_true, if_false, Bool.not_true, Bool.not_false, List.map_cons, List.map_nil, List.cons_append, List.nil_append, List.append_nil, Nat.reduceAdd, Nat.reduceLT, Nat.zero_add, Nat.reduceLeDiff, eq_self, true_and, and_true, Bool.false_or, lenD_s hz, el]
          exact ⟨_, rfl⟩
        | false =>
          simp only [gt_0, pt_0, gt_1, gt_2, gt_3, gt_4, gt_5, gt_6, gt_7, gt_8, gt_9, pt_1, pt_2, pt_3, pt_4, pt_5, pt_6, pt_7, pt_8, pt_9, co_d, co_fl, frz_d, frz_fl, sqS_eq, sq_nx, sq_rt, sq_bk, sq_ct, sq_ex, skp_eq, rtS_eq, asS_eq, ifS_eq, exS_eq, raS_eq, fin_rt, fin_nx, fin_ex, eC_eq, oV_eq, oVr_some, eV_eq, eVr_some, eM_eq, eMr_some, op1_eq, op2_eq, opn_eq, nilA_eq, consA_eq, tst_eq, tstB_ok, ifE_eq, ifR_t, ifR_f, andT_eq, orT_eq, andR_t, andR_f, orR_f, orR_t, notT_eq, dsO_nil, dsO_cons, tupE_eq, lstE_eq, tupR_some, lstR_some, callE_eq, callR_ok, callR_ex, ar_v, ar_s, refs_nil, refs_v, refs_s, bk_nil, bk_v, bk_s, bk_e, noP_eq, soP_eq, soB_int, smE_eq, smR_str, slE_eq, binA_i, binS_i, cmpE_i, cmpE_s, cmpE_b, cmpN_i, cmpN_s, cmpN_b, cmpI_i, absD_i, maxD_i, intD_i, intD_b, negD_i, lenD_l, lenD_t, ixD_t0, ixD_t1, fzc_eq, upc_eq, ooc_eq, hide_nil, hide_cons, back_nil, back_cons, bk_v1, bk_v2, nmG_eq, yesT_eq, compE_eq, compK_ok, anyS_eq, anyR_some, srO_v, srO_vs, srO_s, srR_fl, srR_d, srR_str, cmpIn_s, cmpNin_s, cm2_eq, cmR_t, cmR_f, andE_eq, orE_eq, notE_eq, andV_t, andV_f, orV_f, orV_t, notV_b, parS_eq, parR_2, callO_v, callO_vv, callO_vvv, callO_s, callO_sv, callO_svv, slD_l, allD_1, allD_2, isN_eq, forS_eq, forR_nil, enumS_eq, enR_some, isiD_str, lkN_s, lkN_v0, lkN_vi, lkR_0, lkR_i, lkR_fl, lkR_l, lkR_ex, beq_tt, beq_tf, beq_ft, beq_ff, siS_eq, siQ_fl, siR_0, siR_2, ixD_l0, ixD_l1, ixD_l2, bitsD_i, rngS1_eq, bd_ok, bd_ex, bs_ok, bs_ex, fz_d, fz_fl, fz_ex, up_ok, up_ex, oo_ok, oo_ex, lk_v, lk_s, lks_nil, lks_cons, ret_some, ret_none, Option.bind_some, Option.map_some, List.length_cons, List.length_nil, if_true, Bool.false_eq_true, if_false, Bool.not_true, Bool.not_false, List.map_cons, List.map_nil, List.cons_append, List.nil_append, List.append_nil, Nat.reduceAdd, Nat.reduceLT, Nat.zero_add, Nat.reduceLeDiff, eq_self, true_and, and_true, Bool.true_or]
          exact ⟨_, rfl⟩
/-! numbers read -/
theorem dg_mem {c : Nat} (h : c ∈ dgS.cps.toList) : 48 ≤ c ∧ c ≤ 57 := by
  have e : dgS.cps.toList = [48, 49, 50, 51, 52, 53, 54, 55, 56, 57] := by decide
  rw [e] at h
  simp at h
  omega
theorem dgs_num {z : Str} (h : dgs z = true) : ∃ n : Nat, intText? z = some (n : Int) ∧ n < 1000000000 ∧ ((z == "0") = false → 1 ≤ n) ∧ z.length ≤ 9 := by
  unfold dgs at h
  simp only [Bool.and_eq_true, decide_eq_true_eq, List.all_eq_true] at h
  obtain ⟨⟨⟨h1, h2⟩, h3⟩, h4⟩ := h
  have ad : NumText.AllDigits z.cps.toList := fun c hc => dg_mem (h3 c hc)
  have hl : z.cps.toList.length = z.length := Array.length_toList
  have hne : z.cps.toList ≠ [] := fun e => by
    rw [e] at hl
    simp at hl
    omega
  refine ⟨_, PySem.intText_digits ad hne (by omega), ?_, fun h0 => ?_, h2⟩
  · have := val_lt z.cps.toList 0 ad
    rw [hl] at this
    have h9 : (0 + 1) * 10 ^ z.length ≤ 10 ^ 9 := by
      rw [Nat.zero_add, Nat.one_mul]
      exact Nat.pow_le_pow_right (by decide) h2
    show z.cps.toList.foldl _ 0 < 1000000000
    omega
  · cases hc : z.cps.toList with
    | nil => exact absurd hc hne
    | cons c cs =>
      show 1 ≤ cs.foldl (fun acc c => acc * 10 + (c - 48)) (0 * 10 + (c - 48))
      have hge := val_ge cs (0 * 10 + (c - 48))
      have hd : z.cps.getD 0 0 = c := by
        have : z.cps.toList[0]? = some c := by rw [hc]; rfl
        rw [Array.getElem?_toList] at this
        simp [Array.getD, this]
        have h0 : 0 < z.cps.size := by have : z.cps.size = z.length := rfl; omega
        simp [h0]
        rw [Array.getElem?_eq_getElem h0] at this
        exact Option.some.inj this
      have hcd := ad c (by rw [hc]; exact List.mem_cons_self)
      by_cases hz : c = 48
      · exfalso
        rw [hd, hz] at h4
        have e0 : ((⟨#[48]⟩ : Str) == "0") = true := by decide
        rw [e0] at h4
        simp at h4
        have : z = ("0" : Str) := by
          have hcs : cs = [] := by
            rw [hc] at hl
            simp at hl
            cases cs with
            | nil => rfl
            | cons _ _ => simp at hl; omega
          obtain ⟨⟨l⟩⟩ := z
          have : l = [48] := by
            have hc' : l = c :: cs := hc
            rw [hc', hcs, hz]
          rw [this]
          rfl
        rw [this] at h0
        exact absurd h0 (by decide)
      · omega
def neg (z : Str) : Bool := cutS z none (some 1) == "-"
def bdy (z : Str) : Str := if neg z = true then cutS z (some 1) none else z
def pts (z : Str) : List Str := Txt.split (bdy z) "/"
def num (p : Str) : Int := (intText? p).getD 0
def frq (z : Str) (t u : Int) : PyData := if (wds (t.fdiv (Nat.gcd t.natAbs u.natAbs : Nat)) (u.fdiv (Nat.gcd t.natAbs u.natAbs : Nat)) == z) = true then low t u else .none
def top' (z p : Str) : Int := if neg z = true then -(num p) else num p
def fr (z : Str) : PyData := match pts z with
  | [p] => if dgs p = true then frq z (top' z p) 1 else .none
  | [p, q] => if (dgs p && dgs q && !(q == "0")) = true then frq z (top' z p) (num q) else .none
  | _ => .none
theorem fdiv_abs (a : Int) (g : Nat) : (a.fdiv g).natAbs ≤ a.natAbs := by
  rw [Int.fdiv_eq_ediv_of_nonneg _ (by omega)]
  exact Int.natAbs_ediv_le_natAbs a g
theorem bdy_len (z : Str) : (bdy z).length ≤ z.length := by
  unfold bdy
  split
  · exact cutS_length z _ _
  · exact Nat.le_refl _
theorem bdy_ok {z : Str} (h : PyData.strOk z = true) : PyData.strOk (bdy z) = true := by
  unfold bdy
  split
  · exact ok_cut h
  · exact h
abbrev B0 : Nat := 16777000
theorem pts_len {z p : Str} (hz : z.length ≤ B0) (h : p ∈ pts z) : p.length ≤ 16777216 := by
  have h1 : p.length ≤ (bdy z).length := len_split (by decide) h
  have h2 := bdy_len z
  unfold B0 at hz
  omega
theorem pts_cnt {z : Str} (hz : z.length ≤ B0) : (pts z).length ≤ 16777216 := by
  have h1 : (pts z).length ≤ (bdy z).length + 1 := cnt_split (by decide)
  have h2 := bdy_len z
  unfold B0 at hz
  omega
theorem pts_ok {z p : Str} (hz : PyData.strOk z = true) (h : p ∈ pts z) : PyData.strOk p = true := ok_split (bdy_ok hz) h
theorem num_of {p : Str} {n : Int} (h : intText? p = some n) : num p = n := by
  unfold num
  rw [h]
  rfl
theorem intD_s {z : Str} {n : Int} (h : z.length ≤ 640) (e : intText? z = some n) : intD [.str z] = some (.d (.int n)) := by
  show (if z.length ≤ 640 then (intText? z).bind fun n => imm (.int n) else none) = _
  rw [if_pos h, e]
  rfl
theorem s_told1 (z : Str) (hz : z.length ≤ B0) (o2 o3 o4 : Option W) : asS 1 (smE splitD (ooc (fzc (ifE (tst (op2 cmpE (ooc (fzc (slE (oV 0) noP (soP (eC (.int 1)))))) (ooc (eC (.str "-"))))) (slE (oV 0) (soP (eC (.int 1))) noP) (upc (eV 0))))) (ooc (eC (.str "/")))) [some (.d (.str z)), none, o2, o3, o4] =
    .nx [some (.d (.str z)), some (.fl ((pts z).map .str)), o2, o3, o4] := by
  have hz' : z.length ≤ 16777216 := by unfold B0 at hz; omega
  have h2 := bdy_len z
  have hs : (bdy z).length + 2 ≤ 16777216 := by unfold B0 at hz; omega
  have hy : (("/" : Str).length == 0) = false := by decide
  unfold pts
  cases hn : neg z with
  | true =>
    have hb : bdy z = cutS z (some 1) none := by unfold bdy; rw [if_pos hn]
    have hn' : (cutS z none (some 1) == ("-" : Str)) = true := hn
    rw [hb] at hs ⊢
    simp only [gt_0, pt_0, gt_1, gt_2, gt_3, gt_4, gt_5, gt_6, gt_7, gt_8, gt_9, pt_1, pt_2, pt_3, pt_4, pt_5, pt_6, pt_7, pt_8, pt_9, co_d, co_fl, frz_d, frz_fl, sqS_eq, sq_nx, sq_rt, sq_bk, sq_ct, sq_ex, skp_eq, rtS_eq, asS_eq, ifS_eq, exS_eq, raS_eq, fin_rt, fin_nx, fin_ex, eC_eq, oV_eq, oVr_some, eV_eq, eVr_some, eM_eq, eMr_some, op1_eq, op2_eq, opn_eq, nilA_eq, consA_eq, tst_eq, tstB_ok, ifE_eq, ifR_t, ifR_f, andT_eq, orT_eq, andR_t, andR_f, orR_f, orR_t, notT_eq, dsO_nil, dsO_cons, tupE_eq, lstE_eq, tupR_some, lstR_some, callE_eq, callR_ok, callR_ex, ar_v, ar_s, refs_nil, refs_v, refs_s, bk_nil, bk_v, bk_s, bk_e, noP_eq, soP_eq, soB_int, smE_eq, smR_str, slE_eq, binA_i, binS_i, cmpE_i, cmpE_s, cmpE_b, cmpN_i, cmpN_s, cmpN_b, cmpI_i, absD_i, maxD_i, intD_i, intD_b, negD_i, lenD_l, lenD_t, ixD_t0, ixD_t1, fzc_eq, upc_eq, ooc_eq, hide_nil, hide_cons, back_nil, back_cons, bk_v1, bk_v2, nmG_eq, yesT_eq, compE_eq, compK_ok, anyS_eq, anyR_some, srO_v, srO_vs, srO_s, srR_fl, srR_d, srR_str, cmpIn_s, cmpNin_s, cm2_eq, cmR_t, cmR_f, andE_eq, orE_eq, notE_eq, andV_t, andV_f, orV_f, orV_t, notV_b, parS_eq, parR_2, callO_v, callO_vv, callO_vvv, callO_s, callO_sv, callO_svv, slD_l, allD_1, allD_2, isN_eq, forS_eq, forR_nil, enumS_eq, enR_some, isiD_str, lkN_s, lkN_v0, lkN_vi, lkR_0, lkR_i, lkR_fl, lkR_l, lkR_ex, beq_tt, beq_tf, beq_ft, beq_ff, siS_eq, siQ_fl, siR_0, siR_2, ixD_l0, ixD_l1, ixD_l2, bitsD_i, rngS1_eq, bd_ok, bd_ex, bs_ok, bs_ex, fz_d, fz_fl, fz_ex, up_ok, up_ex, oo_ok, oo_ex, lk_v, lk_s, lks_nil, lks_cons, ret_some, ret_none, Option.bind_some, Option.map_some, List.length_cons, List.length_nil, if_true, Bool.false_eq_true, if_false, Bool.not_true, Bool.not_false, List.map_cons, List.map_nil, List.cons_append, List.nil_append, List.append_nil, Nat.reduceAdd, Nat.reduceLT, Nat.zero_add, Nat.reduceLeDiff, eq_self, true_and, and_true, slD_s hz', hn', splitD_s hy hs]
  | false =>
    have hb : bdy z = z := by unfold bdy; rw [hn]; rfl
    have hn' : (cutS z none (some 1) == ("-" : Str)) = false := hn
    rw [hb] at hs ⊢
    simp only [gt_0, pt_0, gt_1, gt_2, gt_3, gt_4, gt_5, gt_6, gt_7, gt_8, gt_9, pt_1, pt_2, pt_3, pt_4, pt_5, pt_6, pt_7, pt_8, pt_9, co_d, co_fl, frz_d, frz_fl, sqS_eq, sq_nx, sq_rt, sq_bk, sq_ct, sq_ex, skp_eq, rtS_eq, asS_eq, ifS_eq, exS_eq, raS_eq, fin_rt, fin_nx, fin_ex, eC_eq, oV_eq, oVr_some, eV_eq, eVr_some, eM_eq, eMr_some, op1_eq, op2_eq, opn_eq, nilA_eq, consA_eq, tst_eq, tstB_ok, ifE_eq, ifR_t, ifR_f, andT_eq, orT_eq, andR_t, andR_f, orR_f, orR_t, notT_eq, dsO_nil, dsO_cons, tupE_eq, lstE_eq, tupR_some, lstR_some, callE_eq, callR_ok, callR_ex, ar_v, ar_s, refs_nil, refs_v, refs_s, bk_nil, bk_v, bk_s, bk_e, noP_eq, soP_eq, soB_int, smE_eq, smR_str, slE_eq, binA_i, binS_i, cmpE_i, cmpE_s, cmpE_b, cmpN_i, cmpN_s, cmpN_b, cmpI_i, absD_i, maxD_i, intD_i, intD_b, negD_i, lenD_l, lenD_t, ixD_t0, ixD_t1, fzc_eq, upc_eq, ooc_eq, hide_nil, hide_cons, back_nil, back_cons, bk_v1, bk_v2, nmG_eq, yesT_eq, compE_eq, compK_ok, anyS_eq, anyR_some, srO_v, srO_vs, srO_s, srR_fl, srR_d, srR_str, cmpIn_s, cmpNin_s, cm2_eq, cmR_t, cmR_f, andE_eq, orE_eq, notE_eq, andV_t, andV_f, orV_f, orV_t, notV_b, parS_eq, parR_2, callO_v, callO_vv, callO_vvv, callO_s, callO_sv, callO_svv, slD_l, allD_1, allD_2, isN_eq, forS_eq, forR_nil, enumS_eq, enR_some, isiD_str, lkN_s, lkN_v0, lkN_vi, lkR_0, lkR_i, lkR_fl, lkR_l, lkR_ex, beq_tt, beq_tf, beq_ft, beq_ff, siS_eq, siQ_fl, siR_0, siR_2, ixD_l0, ixD_l1, ixD_l2, bitsD_i, rngS1_eq, bd_ok, bd_ex, bs_ok, bs_ex, fz_d, fz_fl, fz_ex, up_ok, up_ex, oo_ok, oo_ex, lk_v, lk_s, lks_nil, lks_cons, ret_some, ret_none, Option.bind_some, Option.map_some, List.length_cons, List.length_nil, if_true, Bool.false_eq_true, if_false, Bool.not_true, Bool.not_false, List.map_cons, List.map_nil, List.cons_append, List.nil_append, List.append_nil, Nat.reduceAdd, Nat.reduceLT, Nat.zero_add, Nat.reduceLeDiff, eq_self, true_and, and_true, slD_s hz', hn', splitD_s hy hs]
theorem cg_told (z : Str) (hz : z.length ≤ B0) : compGo ([4] ++ [1]) (nmG 4) yesT (fzc (callE 1 f_is_digits (consA (ooc (eV 4)) nilA))) ((pts z).map PyData.str) (hide ([4] ++ [1]) [some (.d (.str z)), some (.fl ((pts z).map .str)), none, none, none]) =
    some (((pts z).map fun p => PyData.bool (dgs p)), [some (.d (.str z)), none, none, none, none]) := by
  rw [show hide ([4] ++ [1]) [some (W.d (.str z)), some (.fl ((pts z).map .str)), none, none, none] = [some (W.d (.str z)), none, none, none, none] from rfl]
  rw [compGo_map _ (fun x => match x with | .str w => .bool (dgs w) | _ => .none)]
  · rw [List.map_map]
    rfl
  · intro x hx
    obtain ⟨p, hp, rfl⟩ := List.mem_map.mp hx
    obtain ⟨ρ, e⟩ := e_is_digits p (pts_len hz hp)
    refine ⟨[some (.d (.str z)), none, none, none, some (.d (.str p))], _, [some (.d (.str z)), none, none, none, some (.d (.str p))], by simp only [gt_0, pt_0, gt_1, gt_2, gt_3, gt_4, gt_5, gt_6, gt_7, gt_8, gt_9, pt_1, pt_2, pt_3, pt_4, pt_5, pt_6, pt_7, pt_8, pt_9, co_d, co_fl, frz_d, frz_fl, sqS_eq, sq_nx, sq_rt, sq_bk, sq_ct, sq_ex, skp_eq, rtS_eq, asS_eq, ifS_eq, exS_eq, raS_eq, fin_rt, fin_nx, fin_ex, eC_eq, oV_eq, oVr_some, eV_eq, eVr_some, eM_eq, eMr_some, op1_eq, op2_eq, opn_eq, nilA_eq, consA_eq, tst_eq, tstB_ok, ifE_eq, ifR_t, ifR_f, andT_eq, orT_eq, andR_t, andR_f, orR_f, orR_t, notT_eq, dsO_nil, dsO_cons, tupE_eq, lstE_eq, tupR_some, lstR_some, callE_eq, callR_ok, callR_ex, ar_v, ar_s, refs_nil, refs_v, refs_s, bk_nil, bk_v, bk_s, bk_e, noP_eq, soP_eq, soB_int, smE_eq, smR_str, slE_eq, binA_i, binS_i, cmpE_i, cmpE_s, cmpE_b, cmpN_i, cmpN_s, cmpN_b, cmpI_i, absD_i, maxD_i, intD_i, intD_b, negD_i, lenD_l, lenD_t, ixD_t0, ixD_t1, fzc_eq, upc_eq, ooc_eq, hide_nil, hide_cons, back_nil, back_cons, bk_v1, bk_v2, nmG_eq, yesT_eq, compE_eq, compK_ok, anyS_eq, anyR_some, srO_v, srO_vs, srO_s, srR_fl, srR_d, srR_str, cmpIn_s, cmpNin_s, cm2_eq, cmR_t, cmR_f, andE_eq, orE_eq, notE_eq, andV_t, andV_f, orV_f, orV_t, notV_b, parS_eq, parR_2, callO_v, callO_vv, callO_vvv, callO_s, callO_sv, callO_svv, slD_l, allD_1, allD_2, isN_eq, forS_eq, forR_nil, enumS_eq, enR_some, isiD_str, lkN_s, lkN_v0, lkN_vi, lkR_0, lkR_i, lkR_fl, lkR_l, lkR_ex, beq_tt, beq_tf, beq_ft, beq_ff, siS_eq, siQ_fl, siR_0, siR_2, ixD_l0, ixD_l1, ixD_l2, bitsD_i, rngS1_eq, bd_ok, bd_ex, bs_ok, bs_ex, fz_d, fz_fl, fz_ex, up_ok, up_ex, oo_ok, oo_ex, lk_v, lk_s, lks_nil, lks_cons, ret_some, ret_none, Option.bind_some, Option.map_some, List.length_cons, List.length_nil, if_true, Bool.false_eq_true, if_false, Bool.not_true, Bool.not_false, List.map_cons, List.map_nil, List.cons_append, List.nil_append, List.append_nil, Nat.reduceAdd, Nat.reduceLT, Nat.zero_add, Nat.reduceLeDiff, eq_self, true_and, and_true], rfl, ?_, rfl⟩
    simp only [gt_0, pt_0, gt_1, gt_2, gt_3, gt_4, gt_5, gt_6, gt_7, gt_8, gt_9, pt_1, pt_2, pt_3, pt_4, pt_5, pt_6, pt_7, pt_8, pt_9, co_d, co_fl, frz_d, frz_fl, sqS_eq, sq_nx, sq_rt, sq_bk, sq_ct, sq_ex, skp_eq, rtS_eq, asS_eq, ifS_eq, exS_eq, raS_eq, fin_rt, fin_nx, fin_ex, eC_eq, oV_eq, oVr_some, eV_eq, eVr_some, eM_eq, eMr_some, op1_eq, op2_eq, opn_eq, nilA_eq, consA_eq, tst_eq, tstB_ok, ifE_eq, ifR_t, ifR_f, andT_eq, orT_eq, andR_t, andR_f, orR_f, orR_t, notT_eq, dsO_nil, dsO_cons, tupE_eq, lstE_eq, tupR_some, lstR_some, callE_eq, callR_ok, callR_ex, ar_v, ar_s, refs_nil, refs_v, refs_s, bk_nil, bk_v, bk_s, bk_e, noP_eq, soP_eq, soB_int, smE_eq, smR_str, slE_eq, binA_i, binS_i, cmpE_i, cmpE_s, cmpE_b, cmpN_i, cmpN_s, cmpN_b, cmpI_i, absD_i, maxD_i, intD_i, intD_b, negD_i, lenD_l, lenD_t, ixD_t0, ixD_t1, fzc_eq, upc_eq, ooc_eq, hide_nil, hide_cons, back_nil, back_cons, bk_v1, bk_v2, nmG_eq, yesT_eq, compE_eq, compK_ok, anyS_eq, anyR_some, srO_v, srO_vs, srO_s, srR_fl, srR_d, srR_str, cmpIn_s, cmpNin_s, cm2_eq, cmR_t, cmR_f, andE_eq, orE_eq, notE_eq, andV_t, andV_f, orV_f, orV_t, notV_b, parS_eq, parR_2, callO_v, callO_vv, callO_vvv, callO_s, callO_sv, callO_svv, slD_l, allD_1, allD_2, isN_eq, forS_eq, forR_nil, enumS_eq, enR_some, isiD_str, lkN_s, lkN_v0, lkN_vi, lkR_0, lkR_i, lkR_fl, lkR_l, lkR_ex, beq_tt, beq_tf, beq_ft, beq_ff, siS_eq, siQ_fl, siR_0, siR_2, ixD_l0, ixD_l1, ixD_l2, bitsD_i, rngS1_eq, bd_ok, bd_ex, bs_ok, bs_ex, fz_d, fz_fl, fz_ex, up_ok, up_ex, oo_ok, oo_ex, lk_v, lk_s, lks_nil, lks_cons, ret_some, ret_none, Option.bind_some, Option.map_some, List.length_cons, List.length_nil, if_true, Bool.false_eq_true, if_false, Bool.not_true, Bool.not_false, List.map_cons, List.map_nil, List.cons_append, List.nil_append, List.append_nil, Nat.reduceAdd, Nat.reduceLT, Nat.zero_add, Nat.reduceLeDiff, eq_self, true_and, and_true, e]
theorem e_fw_low (t u : Int) (ht : t.natAbs < 10 ^ 10) (hu : u.natAbs < 10 ^ 10) : ∃ ρ, f_fraction_words [some (.d (low t u))] = .ok (.d (.str (wds (t.fdiv (Nat.gcd t.natAbs u.natAbs : Nat)) (u.fdiv (Nat.gcd t.natAbs u.natAbs : Nat))))) ρ :=
  e_fraction_words _ _ (Nat.lt_of_le_of_lt (fdiv_abs _ _) ht) (Nat.lt_of_le_of_lt (fdiv_abs _ _) hu)
theorem e_lw_low (t u : Int) (ht : t.natAbs < 10 ^ 10) (hu : u.natAbs < 10 ^ 10) : ∃ ρ, f_x_law_word [some (.d (low t u))] = .ok (.d (.str (wds (t.fdiv (Nat.gcd t.natAbs u.natAbs : Nat)) (u.fdiv (Nat.gcd t.natAbs u.natAbs : Nat))))) ρ :=
  e_law_word _ _ (Nat.lt_of_le_of_lt (fdiv_abs _ _) ht) (Nat.lt_of_le_of_lt (fdiv_abs _ _) hu)
theorem e_fraction_told (z : Str) (hz : z.length ≤ B0) : ∃ ρ, f_fraction_told [some (.d (.str z))] = .ok (.d (fr z)) ρ := by
  rw [show f_fraction_told [some (.d (.str z))] = finR 1 [1, 2, 3] (s_fraction_told [some (.d (.str z)), none, none, none, none]) from bodyR_eq ..]
  unfold s_fraction_told
  rw [sqS_eq, s_told1 z hz, sq_nx]
  have hc : ((pts z).map PyData.str).length ≤ 16777216 := by rw [List.length_map]; exact pts_cnt hz
  have cg := compR_ok hc (cg_told z hz)
  rw [show back ([4] ++ [1]) [some (W.d (.str z)), some (.fl ((pts z).map .str)), none, none, none] [some (W.d (.str z)), none, none, none, none] = [some (W.d (.str z)), some (.fl ((pts z).map .str)), none, none, none] from rfl] at cg
  have z1 : decide ((2 : Int) < 1) = false := rfl
  have z2 : decide ((2 : Int) < 2) = false := rfl
  have z3 : ((1 : Int) == 2) = false := rfl
  have z4 : ((2 : Int) == 2) = true := rfl
  have hz' : z.length ≤ 16777216 := by unfold B0 at hz; omega
  match hp : pts z with
  | [] =>
    have : 1 ≤ (pts z).length := PyProof.Rows.split_pos _ _
    rw [hp] at this
    exact absurd this (by decide)
  | [p] =>
    have er : fr z = if dgs p = true then frq z (top' z p) 1 else .none := by unfold fr; rw [hp]
    rw [hp] at cg
    rw [er]
    have hl : ((List.map PyData.str [p]).length : Int) = 1 := rfl
    have i0 : ixD (.list (List.map PyData.str [p])) (.int 0) = some (.d (.str p)) := ixD_l rfl
    have i9 : ixD (.list (List.map PyData.str [p])) (.int (-1)) = some (.d (.str p)) := ixD_l rfl
    generalize List.map PyData.str [p] = ps at hl i0 i9 cg
    cases hd : dgs p with
    | false =>
      simp only [gt_0, pt_0, gt_1, gt_2, gt_3, gt_4, gt_5, gt_6, gt_7, gt_8, gt_9, pt_1, pt_2, pt_3, pt_4, pt_5, pt_6, pt_7, pt_8, pt_9, co_d, co_fl, frz_d, frz_fl, sqS_eq, sq_nx, sq_rt, sq_bk, sq_ct, sq_ex, skp_eq, rtS_eq, asS_eq, ifS_eq, exS_eq, raS_eq, fin_rt, fin_nx, fin_ex, eC_eq, oV_eq, oVr_some, eV_eq, eVr_some, eM_eq, eMr_some, op1_eq, op2_eq, opn_eq, nilA_eq, consA_eq, tst_eq, tstB_ok, ifE_eq, ifR_t, ifR_f, andT_eq, orT_eq, andR_t, andR_f, orR_f, orR_t, notT_eq, dsO_nil, dsO_cons, tupE_eq, lstE_eq, tupR_some, lstR_some, callE_eq, callR_ok, callR_ex, ar_v, ar_s, refs_nil, refs_v, refs_s, bk_nil, bk_v, bk_s, bk_e, noP_eq, soP_eq, soB_int, smE_eq, smR_str, slE_eq, binA_i, binS_i, cmpE_i, cmpE_s, cmpE_b, cmpN_i, cmpN_s, cmpN_b, cmpI_i, absD_i, maxD_i, intD_i, intD_b, negD_i, lenD_l, lenD_t, ixD_t0, ixD_t1, fzc_eq, upc_eq, ooc_eq, hide_nil, hide_cons, back_nil, back_cons, bk_v1, bk_v2, nmG_eq, yesT_eq, compE_eq, compK_ok, anyS_eq, anyR_some, srO_v, srO_vs, srO_s, srR_fl, srR_d, srR_str, cmpIn_s, cmpNin_s, cm2_eq, cmR_t, cmR_f, andE_eq, orE_eq, notE_eq, andV_t, andV_f, orV_f, orV_t, notV_b, parS_eq, parR_2, callO_v, callO_vv, callO_vvv, callO_s, callO_sv, callO_svv, slD_l, allD_1, allD_2, isN_eq, forS_eq, forR_nil, enumS_eq, enR_some, isiD_str, lkN_s, lkN_v0, lkN_vi, lkR_0, lkR_i, lkR_fl, lkR_l, lkR_ex, beq_tt, beq_tf, beq_ft, beq_ff, siS_eq, siQ_fl, siR_0, siR_2, ixD_l0, ixD_l1, ixD_l2, bitsD_i, rngS1_eq, bd_ok, bd_ex, bs_ok, bs_ex, fz_d, fz_fl, fz_ex, up_ok, up_ex, oo_ok, oo_ex, lk_v, lk_s, lks_nil, lks_cons, ret_some, ret_none, Option.bind_some, Option.map_some, List.length_cons, List.length_nil, if_true, Bool.false_eq_true, if_false, Bool.not_true, Bool.not_false, List.map_cons, List.map_nil, List.cons_append, List.nil_append, List.append_nil, Nat.reduceAdd, Nat.reduceLT, Nat.zero_add, Nat.reduceLeDiff, eq_self, true_and, and_true, hl, z1, cg, hd]
      exact ⟨_, rfl⟩
    | true =>
      obtain ⟨n, n1, n2, n3, n4⟩ := dgs_num hd
      have iD1 := intD_s (by omega) n1
      obtain ⟨ρa, ea⟩ := e_lowest (top' z p) 1 (by decide) (by decide)
      have t1 : (top' z p).natAbs < 10 ^ 10 := by
        unfold top'
        rw [num_of n1]
        split <;> omega
      obtain ⟨ρb, eb⟩ := e_fw_low (top' z p) 1 t1 (by decide)
      have ht : top' z p = if neg z = true then -(n : Int) else (n : Int) := by unfold top'; rw [num_of n1]
      have key : ∀ b : Bool, (cutS z none (some 1) == ("-" : Str)) = b → neg z = b := fun b h => h
      unfold frq
      cases hn : (cutS z none (some 1) == ("-" : Str)) with
      | true =>
        rw [key _ hn, if_pos rfl] at ht
        rw [ht] at ea eb ⊢
        cases hw : (wds ((-(n : Int)).fdiv (Nat.gcd (-(n : Int)).natAbs (1 : Int).natAbs : Nat)) ((1 : Int).fdiv (Nat.gcd (-(n : Int)).natAbs (1 : Int).natAbs : Nat)) == z) with
        | true =>
          simp only [gt_0, pt_0, gt_1, gt_2, gt_3, gt_4, gt_5, gt_6, gt_7, gt_8, gt_9, pt_1, pt_2, pt_3, pt_4, pt_5, pt_6, pt_7, pt_8, pt_9, co_d, co_fl, frz_d, frz_fl, sqS_eq, sq_nx, sq_rt, sq_bk, sq_ct, sq_ex, skp_eq, rtS_eq, asS_eq, ifS_eq, exS_eq, raS_eq, fin_rt, fin_nx, fin_ex, eC_eq, oV_eq, oVr_some, eV_eq, eVr_some, eM_eq, eMr_some, op1_eq, op2_eq, opn_eq, nilA_eq, consA_eq, tst_eq, tstB_ok, ifE_eq, ifR_t, ifR_f, andT_eq, orT_eq, andR_t, andR_f, orR_f, orR_t, notT_eq, dsO_nil, dsO_cons, tupE_eq, lstE_eq, tupR_some, lstR_some, callE_eq, callR_ok, callR_ex, ar_v, ar_s, refs_nil, refs_v, refs_s, bk_nil, bk_v, bk_s, bk_e, noP_eq, soP_eq, soB_int, smE_eq, smR_str, slE_eq, binA_i, binS_i, cmpE_i, cmpE_s, cmpE_b, cmpN_i, cmpN_s, cmpN_b, cmpI_i, absD_i, maxD_i, intD_i, intD_b, negD_i, lenD_l, lenD_t, ixD_t0, ixD_t1, fzc_eq, upc_eq, ooc_eq, hide_nil, hide_cons, back_nil, back_cons, bk_v1, bk_v2, nmG_eq, yesT_eq, compE_eq, compK_ok, anyS_eq, anyR_some, srO_v, srO_vs, srO_s, srR_fl, srR_d, srR_str, cmpIn_s, cmpNin_s, cm2_eq, cmR_t, cmR_f, andE_eq, orE_eq, notE_eq, andV_t, andV_f, orV_f, orV_t, notV_b, parS_eq, parR_2, callO_v, callO_vv, callO_vvv, callO_s, callO_sv, callO_svv, slD_l, allD_1, allD_2, isN_eq, forS_eq, forR_nil, enumS_eq, enR_some, isiD_str, lkN_s, lkN_v0, lkN_vi, lkR_0, lkR_i, lkR_fl, lkR_l, lkR_ex, beq_tt, beq_tf, beq_ft, beq_ff, siS_eq, siQ_fl, siR_0, siR_2, ixD_l0, ixD_l1, ixD_l2, bitsD_i, rngS1_eq, bd_ok, bd_ex, bs_ok, bs_ex, fz_d, fz_fl, fz_ex, up_ok, up_ex, oo_ok, oo_ex, lk_v, lk_s, lks_nil, lks_cons, ret_some, ret_none, Option.bind_some, Option.map_some, List.length_cons, List.length_nil, if_true, Bool.false_eq_true, if_false, Bool.not_true, Bool.not_false, List.map_cons, List.map_nil, List.cons_append, List.nil_append, List.append_nil, Nat.reduceAdd, Nat.reduceLT, Nat.zero_add, Nat.reduceLeDiff, eq_self, true_and, and_true, hl, z1, cg, hd, i9, z3, Bool.and_false, slD_s hz', hn, i0, iD1, ea, eb, hw]
          cases (p == ("0" : Str))
          all_goals
            simp only [gt_0, pt_0, gt_1, gt_2, gt_3, gt_4, gt_5, gt_6, gt_7, gt_8, gt_9, pt_1, pt_2, pt_3, pt_4, pt_5, pt_6, pt_7, pt_8, pt_9, co_d, co_fl, frz_d, frz_fl, sqS_eq, sq_nx, sq_rt, sq_bk, sq_ct, sq_ex, skp_eq, rtS_eq, asS_eq, ifS_eq, exS_eq, raS_eq, fin_rt, fin_nx, fin_ex, eC_eq, oV_eq, oVr_some, eV_eq, eVr_some, eM_eq, eMr_some, op1_eq, op2_eq, opn_eq, nilA_eq, consA_eq, tst_eq, tstB_ok, ifE_eq, ifR_t, ifR_f, andT_eq, orT_eq, andR_t, andR_f, orR_f, orR_t, notT_eq, dsO_nil, dsO_cons, tupE_eq, lstE_eq, tupR_some, lstR_some, callE_eq, callR_ok, callR_ex, ar_v, ar_s, refs_nil, refs_v, refs_s, bk_nil, bk_v, bk_s, bk_e, noP_eq, soP_eq, soB_int, smE_eq, smR_str, slE_eq, binA_i, binS_i, cmpE_i, cmpE_s, cmpE_b, cmpN_i, cmpN_s, cmpN_b, cmpI_i, absD_i, maxD_i, intD_i, intD_b, negD_i, lenD_l, lenD_t, ixD_t0, ixD_t1, fzc_eq, upc_eq, ooc_eq, hide_nil, hide_cons, back_nil, back_cons, bk_v1, bk_v2, nmG_eq, yesT_eq, compE_eq, compK_ok, anyS_eq, anyR_some, srO_v, srO_vs, srO_s, srR_fl, srR_d, srR_str, cmpIn_s, cmpNin_s, cm2_eq, cmR_t, cmR_f, andE_eq, orE_eq, notE_eq, andV_t, andV_f, orV_f, orV_t, notV_b, parS_eq, parR_2, callO_v, callO_vv, callO_vvv, callO_s, callO_sv, callO_svv, slD_l, allD_1, allD_2, isN_eq, forS_eq, forR_nil, enumS_eq, enR_some, isiD_str, lkN_s, lkN_v0, lkN_vi, lkR_0, lkR_i, lkR_fl, lkR_l, lkR_ex, beq_tt, beq_tf, beq_ft, beq_ff, siS_eq, siQ_fl, siR_0, siR_2, ixD_l0, ixD_l1, ixD_l2, bitsD_i, rngS1_eq, bd_ok, bd_ex, bs_ok, bs_ex, fz_d, fz_fl, fz_ex, up_ok, up_ex, oo_ok, oo_ex, lk_v, lk_s, lks_nil, lks_cons, ret_some, ret_none, Option.bind_some, Option.map_some, List.length_cons, List.length_nil, if_true, Bool.false_eq_true, if_false, Bool.not_true, Bool.not_false, List.map_cons, List.map_nil, List.cons_append, List.nil_append, List.append_nil, Nat.reduceAdd, Nat.reduceLT, Nat.zero_add, Nat.reduceLeDiff, eq_self, true_and, and_true, hl, z1, cg, hd, i9, z3, Bool.and_false, slD_s hz', hn, i0, iD1, ea, eb, hw]
            exact ⟨_, rfl⟩
        | false =>
          simp only [gt_0, pt_0, gt_1, gt_2, gt_3, gt_4, gt_5, gt_6, gt_7, gt_8, gt_9, pt_1, pt_2, pt_3, pt_4, pt_5, pt_6, pt_7, pt_8, pt_9, co_d, co_fl, frz_d, frz_fl, sqS_eq, sq_nx, sq_rt, sq_bk, sq_ct, sq_ex, skp_eq, rtS_eq, asS_eq, ifS_eq, exS_eq, raS_eq, fin_rt, fin_nx, fin_ex, eC_eq, oV_eq, oVr_some, eV_eq, eVr_some, eM_eq, eMr_some, op1_eq, op2_eq, opn_eq, nilA_eq, consA_eq, tst_eq, tstB_ok, ifE_eq, ifR_t, ifR_f, andT_eq, orT_eq, andR_t, andR_f, orR_f, orR_t, notT_eq, dsO_nil, dsO_cons, tupE_eq, lstE_eq, tupR_some, lstR_some, callE_eq, callR_ok, callR_ex, ar_v, ar_s, refs_nil, refs_v, refs_s, bk_nil, bk_v, bk_s, bk_e, noP_eq, soP_eq, soB_int, smE_eq, smR_str, slE_eq, binA_i, binS_i, cmpE_i, cmpE_s, cmpE_b, cmpN_i, cmpN_s, cmpN_b, cmpI_i, absD_i, maxD_i, intD_i, intD_b, negD_i, lenD_l, lenD_t, ixD_t0, ixD_t1, fzc_eq, upc_eq, ooc_eq, hide_nil, hide_cons, back_nil, back_cons, bk_v1, bk_v2, nmG_eq, yesT_eq, compE_eq, compK_ok, anyS_eq, anyR_some, srO_v, srO_vs, srO_s, srR_fl, srR_d, srR_str, cmpIn_s, cmpNin_s, cm2_eq, cmR_t, cmR_f, andE_eq, orE_eq, notE_eq, andV_t, andV_f, orV_f, orV_t, notV_b, parS_eq, parR_2, callO_v, callO_vv, callO_vvv, callO_s, callO_sv, callO_svv, slD_l, allD_1, allD_2, isN_eq, forS_eq, forR_nil, enumS_eq, enR_some, isiD_str, lkN_s, lkN_v0, lkN_vi, lkR_0, lkR_i, lkR_fl, lkR_l, lkR_ex, beq_tt, beq_tf, beq_ft, beq_ff, siS_eq, siQ_fl, siR_0, siR_2, ixD_l0, ixD_l1, ixD_l2, bitsD_i, rngS1_eq, bd_ok, bd_ex, bs_ok, bs_ex, fz_d, fz_fl, fz_ex, up_ok, up_ex, oo_ok, oo_ex, lk_v, lk_s, lks_nil, lks_cons, ret_some, ret_none, Option.bind_some, Option.map_some, List.length_cons, List.length_nil, if_true, Bool.false_eq_true, if_false, Bool.not_true, Bool.not_false, List.map_cons, List.map_nil, List.cons_append, List.nil_append, List.append_nil, Nat.reduceAdd, Nat.reduceLT, Nat.zero_add, Nat.reduceLeDiff, eq_self, true_and, and_true, hl, z1, cg, hd, i9, z3, Bool.and_false, slD_s hz', hn, i0, iD1, ea, eb, hw]
          cases (p == ("0" : Str))
          all_goals
            simp only [gt_0, pt_0, gt_1, gt_2, gt_3, gt_4, gt_5, gt_6, gt_7, gt_8, gt_9, pt_1, pt_2, pt_3, pt_4, pt_5, pt_6, pt_7, pt_8, pt_9, co_d, co_fl, frz_d, frz_fl, sqS_eq, sq_nx, sq_rt, sq_bk, sq_ct, sq_ex, skp_eq, rtS_eq, asS_eq, ifS_eq, exS_eq, raS_eq, fin_rt, fin_nx, fin_ex, eC_eq, oV_eq, oVr_some, eV_eq, eVr_some, eM_eq, eMr_some, op1_eq, op2_eq, opn_eq, nilA_eq, consA_eq, tst_eq, tstB_ok, ifE_eq, ifR_t, ifR_f, andT_eq, orT_eq, andR_t, andR_f, orR_f, orR_t, notT_eq, dsO_nil, dsO_cons, tupE_eq, lstE_eq, tupR_some, lstR_some, callE_eq, callR_ok, callR_ex, ar_v, ar_s, refs_nil, refs_v, refs_s, bk_nil, bk_v, bk_s, bk_e, noP_eq, soP_eq, soB_int, smE_eq, smR_str, slE_eq, binA_i, binS_i, cmpE_i, cmpE_s, cmpE_b, cmpN_i, cmpN_s, cmpN_b, cmpI_i, absD_i, maxD_i, intD_i, intD_b, negD_i, lenD_l, lenD_t, ixD_t0, ixD_t1, fzc_eq, upc_eq, ooc_eq, hide_nil, hide_cons, back_nil, back_cons, bk_v1, bk_v2, nmG_eq, yesT_eq, compE_eq, compK_ok, anyS_eq, anyR_some, srO_v, srO_vs, srO_s, srR_fl, srR_d, srR_str, cmpIn_s, cmpNin_s, cm2_eq, cmR_t, cmR_f, andE_eq, orE_eq, notE_eq, andV_t, andV_f, orV_f, orV_t, notV_b, parS_eq, parR_2, callO_v, callO_vv, callO_vvv, callO_s, callO_sv, callO_svv, slD_l, allD_1, allD_2, isN_eq, forS_eq, forR_nil, enumS_eq, enR_some, isiD_str, lkN_s, lkN_v0, lkN_vi, lkR_0, lkR_i, lkR_fl, lkR_l, lkR_ex, beq_tt, beq_tf, beq_ft, beq_ff, siS_eq, siQ_fl, siR_0, siR_2, ixD_l0, ixD_l1, ixD_l2, bitsD_i, rngS1_eq, bd_ok, bd_ex, bs_ok, bs_ex, fz_d, fz_fl, fz_ex, up_ok, up_ex, oo_ok, oo_ex, lk_v, lk_s, lks_nil, lks_cons, ret_some, ret_none, Option.bind_some, Option.map_some, List.length_cons, List.length_nil, if_true, Bool.false_eq_true, if_false, Bool.not_true, Bool.not_false, List.map_cons, List.map_nil, List.cons_append, List.nil_append, List.append_nil, Nat.reduceAdd, Nat.reduceLT, Nat.zero_add, Nat.reduceLeDiff, eq_self, true_and, and_true, hl, z1, cg, hd, i9, z3, Bool.and_false, slD_s hz', hn, i0, iD1, ea, eb, hw]
            exact ⟨_, rfl⟩
      | false =>
        rw [key _ hn] at ht
        simp only [Bool.false_eq_true, if_false] at ht
        rw [ht] at ea eb ⊢
        cases hw : (wds (((n : Int)).fdiv (Nat.gcd ((n : Int)).natAbs (1 : Int).natAbs : Nat)) ((1 : Int).fdiv (Nat.gcd ((n : Int)).natAbs (1 : Int).natAbs : Nat)) == z) with
        | true =>
          simp only [gt_0, pt_0, gt_1, gt_2, gt_3, gt_4, gt_5, gt_6, gt_7, gt_8, gt_9, pt_1, pt_2, pt_3, pt_4, pt_5, pt_6, pt_7, pt_8, pt_9, co_d, co_fl, frz_d, frz_fl, sqS_eq, sq_nx, sq_rt, sq_bk, sq_ct, sq_ex, skp_eq, rtS_eq, asS_eq, ifS_eq, exS_eq, raS_eq, fin_rt, fin_nx, fin_ex, eC_eq, oV_eq, oVr_some, eV_eq, eVr_some, eM_eq, eMr_some, op1_eq, op2_eq, opn_eq, nilA_eq, consA_eq, tst_eq, tstB_ok, ifE_eq, ifR_t, ifR_f, andT_eq, orT_eq, andR_t, andR_f, orR_f, orR_t, notT_eq, dsO_nil, dsO_cons, tupE_eq, lstE_eq, tupR_some, lstR_some, callE_eq, callR_ok, callR_ex, ar_v, ar_s, refs_nil, refs_v, refs_s, bk_nil, bk_v, bk_s, bk_e, noP_eq, soP_eq, soB_int, smE_eq, smR_str, slE_eq, binA_i, binS_i, cmpE_i, cmpE_s, cmpE_b, cmpN_i, cmpN_s, cmpN_b, cmpI_i, absD_i, maxD_i, intD_i, intD_b, negD_i, lenD_l, lenD_t, ixD_t0, ixD_t1, fzc_eq, upc_eq, ooc_eq, hide_nil, hide_cons, back_nil, back_cons, bk_v1, bk_v2, nmG_eq, yesT_eq, compE_eq, compK_ok, anyS_eq, anyR_some, srO_v, srO_vs, srO_s, srR_fl, srR_d, srR_str, cmpIn_s, cmpNin_s, cm2_eq, cmR_t, cmR_f, andE_eq, orE_eq, notE_eq, andV_t, andV_f, orV_f, orV_t, notV_b, parS_eq, parR_2, callO_v, callO_vv, callO_vvv, callO_s, callO_sv, callO_svv, slD_l, allD_1, allD_2, isN_eq, forS_eq, forR_nil, enumS_eq, enR_some, isiD_str, lkN_s, lkN_v0, lkN_vi, lkR_0, lkR_i, lkR_fl, lkR_l, lkR_ex, beq_tt, beq_tf, beq_ft, beq_ff, siS_eq, siQ_fl, siR_0, siR_2, ixD_l0, ixD_l1, ixD_l2, bitsD_i, rngS1_eq, bd_ok, bd_ex, bs_ok, bs_ex, fz_d, fz_fl, fz_ex, up_ok, up_ex, oo_ok, oo_ex, lk_v, lk_s, lks_nil, lks_cons, ret_some, ret_none, Option.bind_some, Option.map_some, List.length_cons, List.length_nil, if_true, Bool.false_eq_true, if_false, Bool.not_true, Bool.not_false, List.map_cons, List.map_nil, List.cons_append, List.nil_append, List.append_nil, Nat.reduceAdd, Nat.reduceLT, Nat.zero_add, Nat.reduceLeDiff, eq_self, true_and, and_true, hl, z1, cg, hd, i9, z3, Bool.and_false, slD_s hz', hn, i0, iD1, ea, eb, hw]
          cases (p == ("0" : Str))
          all_goals
            simp only [gt_0, pt_0, gt_1, gt_2, gt_3, gt_4, gt_5, gt_6, gt_7, gt_8, gt_9, pt_1, pt_2, pt_3, pt_4, pt_5, pt_6, pt_7, pt_8, pt_9, co_d, co_fl, frz_d, frz_fl, sqS_eq, sq_nx, sq_rt, sq_bk, sq_ct, sq_ex, skp_eq, rtS_eq, asS_eq, ifS_eq, exS_eq, raS_eq, fin_rt, fin_nx, fin_ex, eC_eq, oV_eq, oVr_some, eV_eq, eVr_some, eM_eq, eMr_some, op1_eq, op2_eq, opn_eq, nilA_eq, consA_eq, tst_eq, tstB_ok, ifE_eq, ifR_t, ifR_f, andT_eq, orT_eq, andR_t, andR_f, orR_f, orR_t, notT_eq, dsO_nil, dsO_cons, tupE_eq, lstE_eq, tupR_some, lstR_some, callE_eq, callR_ok, callR_ex, ar_v, ar_s, refs_nil, refs_v, refs_s, bk_nil, bk_v, bk_s, bk_e, noP_eq, soP_eq, soB_int, smE_eq, smR_str, slE_eq, binA_i, binS_i, cmpE_i, cmpE_s, cmpE_b, cmpN_i, cmpN_s, cmpN_b, cmpI_i, absD_i, maxD_i, intD_i, intD_b, negD_i, lenD_l, lenD_t, ixD_t0, ixD_t1, fzc_eq, upc_eq, ooc_eq, hide_nil, hide_cons, back_nil, back_cons, bk_v1, bk_v2, nmG_eq, yesT_eq, compE_eq, compK_ok, anyS_eq, anyR_some, srO_v, srO_vs, srO_s, srR_fl, srR_d, srR_str, cmpIn_s, cmpNin_s, cm2_eq, cmR_t, cmR_f, andE_eq, orE_eq, notE_eq, andV_t, andV_f, orV_f, orV_t, notV_b, parS_eq, parR_2, callO_v, callO_vv, callO_vvv, callO_s, callO_sv, callO_svv, slD_l, allD_1, allD_2, isN_eq, forS_eq, forR_nil, enumS_eq, enR_some, isiD_str, lkN_s, lkN_v0, lkN_vi, lkR_0, lkR_i, lkR_fl, lkR_l, lkR_ex, beq_tt, beq_tf, beq_ft, beq_ff, siS_eq, siQ_fl, siR_0, siR_2, ixD_l0, ixD_l1, ixD_l2, bitsD_i, rngS1_eq, bd_ok, bd_ex, bs_ok, bs_ex, fz_d, fz_fl, fz_ex, up_ok, up_ex, oo_ok, oo_ex, lk_v, lk_s, lks_nil, lks_cons, ret_some, ret_none, Option.bind_some, Option.map_some, List.length_cons, List.length_nil, if_true, Bool.false_eq_true, if_false, Bool.not_true, Bool.not_false, List.map_cons, List.map_nil, List.cons_append, List.nil_append, List.append_nil, Nat.reduceAdd, Nat.reduceLT, Nat.zero_add, Nat.reduceLeDiff, eq_self, true_and, and_true, hl, z1, cg, hd, i9, z3, Bool.and_false, slD_s hz', hn, i0, iD1, ea, eb, hw]
            exact ⟨_, rfl⟩
        | false =>
          simp only [gt_0, pt_0, gt_1, gt_2, gt_3, gt_4, gt_5, gt_6, gt_7, gt_8, gt_9, pt_1, pt_2, pt_3, pt_4, pt_5, pt_6, pt_7, pt_8, pt_9, co_d, co_fl, frz_d, frz_fl, sqS_eq, sq_nx, sq_rt, sq_bk, sq_ct, sq_ex, skp_eq, rtS_eq, asS_eq, ifS_eq, exS_eq, raS_eq, fin_rt, fin_nx, fin_ex, eC_eq, oV_eq, oVr_some, eV_eq, eVr_some, eM_eq, eMr_some, op1_eq, op2_eq, opn_eq, nilA_eq, consA_eq, tst_eq, tstB_ok, ifE_eq, ifR_t, ifR_f, andT_eq, orT_eq, andR_t, andR_f, orR_f, orR_t, notT_eq, dsO_nil, dsO_cons, tupE_eq, lstE_eq, tupR_some, lstR_some, callE_eq, callR_ok, callR_ex, ar_v, ar_s, refs_nil, refs_v, refs_s, bk_nil, bk_v, bk_s, bk_e, noP_eq, soP_eq, soB_int, smE_eq, smR_str, slE_eq, binA_i, binS_i, cmpE_i, cmpE_s, cmpE_b, cmpN_i, cmpN_s, cmpN_b, cmpI_i, absD_i, maxD_i, intD_i, intD_b, negD_i, lenD_l, lenD_t, ixD_t0, ixD_t1, fzc_eq, upc_eq, ooc_eq, hide_nil, hide_cons, back_nil, back_cons, bk_v1, bk_v2, nmG_eq, yesT_eq, compE_eq, compK_ok, anyS_eq, anyR_some, srO_v, srO_vs, srO_s, srR_fl, srR_d, srR_str, cmpIn_s, cmpNin_s, cm2_eq, cmR_t, cmR_f, andE_eq, orE_eq, notE_eq, andV_t, andV_f, orV_f, orV_t, notV_b, parS_eq, parR_2, callO_v, callO_vv, callO_vvv, callO_s, callO_sv, callO_svv, slD_l, allD_1, allD_2, isN_eq, forS_eq, forR_nil, enumS_eq, enR_some, isiD_str, lkN_s, lkN_v0, lkN_vi, lkR_0, lkR_i, lkR_fl, lkR_l, lkR_ex, beq_tt, beq_tf, beq_ft, beq_ff, siS_eq, siQ_fl, siR_0, siR_2, ixD_l0, ixD_l1, ixD_l2, bitsD_i, rngS1_eq, bd_ok, bd_ex, bs_ok, bs_ex, fz_d, fz_fl, fz_ex, up_ok, up_ex, oo_ok, oo_ex, lk_v, lk_s, lks_nil, lks_cons, ret_some, ret_none, Option.bind_some, Option.map_some, List.length_cons, List.length_nil, if_true, Bool.false_eq_true, if_false, Bool.not_true, Bool.not_false, List.map_cons, List.map_nil, List.cons_append, List.nil_append, List.append_nil, Nat.reduceAdd, Nat.reduceLT, Nat.zero_add, Nat.reduceLeDiff, eq_self, true_and, and_true, hl, z1, cg, hd, i9, z3, Bool.and_false, slD_s hz', hn, i0, iD1, ea, eb, hw]
          cases (p == ("0" : Str))
          all_goals
            simp only [gt_0, pt_0, gt_1, gt_2, gt_3, gt_4, gt_5, gt_6, gt_7, gt_8, gt_9, pt_1, pt_2, pt_3, pt_4, pt_5, pt_6, pt_7, pt_8, pt_9, co_d, co_fl, frz_d, frz_fl, sqS_eq, sq_nx, sq_rt, sq_bk, sq_ct, sq_ex, skp_eq, rtS_eq, asS_eq, ifS_eq, exS_eq, raS_eq, fin_rt, fin_nx, fin_ex, eC_eq, oV_eq, oVr_some, eV_eq, eVr_some, eM_eq, eMr_some, op1_eq, op2_eq, opn_eq, nilA_eq, consA_eq, tst_eq, tstB_ok, ifE_eq, ifR_t, ifR_f, andT_eq, orT_eq, andR_t, andR_f, orR_f, orR_t, notT_eq, dsO_nil, dsO_cons, tupE_eq, lstE_eq, tupR_some, lstR_some, callE_eq, callR_ok, callR_ex, ar_v, ar_s, refs_nil, refs_v, refs_s, bk_nil, bk_v, bk_s, bk_e, noP_eq, soP_eq, soB_int, smE_eq, smR_str, slE_eq, binA_i, binS_i, cmpE_i, cmpE_s, cmpE_b, cmpN_i, cmpN_s, cmpN_b, cmpI_i, absD_i, maxD_i, intD_i, intD_b, negD_i, lenD_l, lenD_t, ixD_t0, ixD_t1, fzc_eq, upc_eq, ooc_eq, hide_nil, hide_cons, back_nil, back_cons, bk_v1, bk_v2, nmG_eq, yesT_eq, compE_eq, compK_ok, anyS_eq, anyR_some, srO_v, srO_vs, srO_s, srR_fl, srR_d, srR_str, cmpIn_s, cmpNin_s, cm2_eq, cmR_t, cmR_f, andE_eq, orE_eq, notE_eq, andV_t, andV_f, orV_f, orV_t, notV_b, parS_eq, parR_2, callO_v, callO_vv, callO_vvv, callO_s, callO_sv, callO_svv, slD_l, allD_1, allD_2, isN_eq, forS_eq, forR_nil, enumS_eq, enR_some, isiD_str, lkN_s, lkN_v0, lkN_vi, lkR_0, lkR_i, lkR_fl, lkR_l, lkR_ex, beq_tt, beq_tf, beq_ft, beq_ff, siS_eq, siQ_fl, siR_0, siR_2, ixD_l0, ixD_l1, ixD_l2, bitsD_i, rngS1_eq, bd_ok, bd_ex, bs_ok, bs_ex, fz_d, fz_fl, fz_ex, up_ok, up_ex, oo_ok, oo_ex, lk_v, lk_s, lks_nil, lks_cons, ret_some, ret_none, Option.bind_some, Option.map_some, List.length_cons, List.length_nil, if_true, Bool.false_eq_true, if_false, Bool.not_true, Bool.not_false, List.map_cons, List.map_nil, List.cons_append, List.nil_append, List.append_nil, Nat.reduceAdd, Nat.reduceLT, Nat.zero_add, Nat.reduceLeDiff, eq_self, true_and, and_true, hl, z1, cg, hd, i9, z3, Bool.and_false, slD_s hz', hn, i0, iD1, ea, eb, hw]
            exact ⟨_, rfl⟩
  | [p, q] =>
    have er : fr z = if (dgs p && dgs q && !(q == "0")) = true then frq z (top' z p) (num q) else .none := by unfold fr; rw [hp]
    rw [hp] at cg
    rw [er]
    have hl : ((List.map PyData.str [p, q]).length : Int) = 2 := rfl
    have i0 : ixD (.list (List.map PyData.str [p, q])) (.int 0) = some (.d (.str p)) := ixD_l rfl
    have i1 : ixD (.list (List.map PyData.str [p, q])) (.int 1) = some (.d (.str q)) := ixD_l rfl
    have i9 : ixD (.list (List.map PyData.str [p, q])) (.int (-1)) = some (.d (.str q)) := ixD_l rfl
    generalize List.map PyData.str [p, q] = ps at hl i0 i1 i9 cg
    cases hd : dgs p with
    | false =>
      simp only [gt_0, pt_0, gt_1, gt_2, gt_3, gt_4, gt_5, gt_6, gt_7, gt_8, gt_9, pt_1, pt_2, pt_3, pt_4, pt_5, pt_6, pt_7, pt_8, pt_9, co_d, co_fl, frz_d, frz_fl, sqS_eq, sq_nx, sq_rt, sq_bk, sq_ct, sq_ex, skp_eq, rtS_eq, asS_eq, ifS_eq, exS_eq, raS_eq, fin_rt, fin_nx, fin_ex, eC_eq, oV_eq, oVr_some, eV_eq, eVr_some, eM_eq, eMr_some, op1_eq, op2_eq, opn_eq, nilA_eq, consA_eq, tst_eq, tstB_ok, ifE_eq, ifR_t, ifR_f, andT_eq, orT_eq, andR_t, andR_f, orR_f, orR_t, notT_eq, dsO_nil, dsO_cons, tupE_eq, lstE_eq, tupR_some, lstR_some, callE_eq, callR_ok, callR_ex, ar_v, ar_s, refs_nil, refs_v, refs_s, bk_nil, bk_v, bk_s, bk_e, noP_eq, soP_eq, soB_int, smE_eq, smR_str, slE_eq, binA_i, binS_i, cmpE_i, cmpE_s, cmpE_b, cmpN_i, cmpN_s, cmpN_b, cmpI_i, absD_i, maxD_i, intD_i, intD_b, negD_i, lenD_l, lenD_t, ixD_t0, ixD_t1, fzc_eq, upc_eq, ooc_eq, hide_nil, hide_cons, back_nil, back_cons, bk_v1, bk_v2, nmG_eq, yesT_eq, compE_eq, compK_ok, anyS_eq, anyR_some, srO_v, srO_vs, srO_s, srR_fl, srR_d, srR_str, cmpIn_s, cmpNin_s, cm2_eq, cmR_t, cmR_f, andE_eq, orE_eq, notE_eq, andV_t, andV_f, orV_f, orV_t, notV_b, parS_eq, parR_2, callO_v, callO_vv, callO_vvv, callO_s, callO_sv, callO_svv, slD_l, allD_1, allD_2, isN_eq, forS_eq, forR_nil, enumS_eq, enR_some, isiD_str, lkN_s, lkN_v0, lkN_vi, lkR_0, lkR_i, lkR_fl, lkR_l, lkR_ex, beq_tt, beq_tf, beq_ft, beq_ff, siS_eq, siQ_fl, siR_0, siR_2, ixD_l0, ixD_l1, ixD_l2, bitsD_i, rngS1_eq, bd_ok, bd_ex, bs_ok, bs_ex, fz_d, fz_fl, fz_ex, up_ok, up_ex, oo_ok, oo_ex, lk_v, lk_s, lks_nil, lks_cons, ret_some, ret_none, Option.bind_some, Option.map_some, List.length_cons, List.length_nil, if_true, Bool.false_eq_true, if_false, Bool.not_true, Bool.not_false, List.map_cons, List.map_nil, List.cons_append, List.nil_append, List.append_nil, Nat.reduceAdd, Nat.reduceLT, Nat.zero_add, Nat.reduceLeDiff, eq_self, true_and, and_true, hl, z2, cg, hd, Bool.false_and]
      exact ⟨_, rfl⟩
    | true =>
      cases hd2 : dgs q with
      | false =>
        simp only [gt_0, pt_0, gt_1, gt_2, gt_3, gt_4, gt_5, gt_6, gt_7, gt_8, gt_9, pt_1, pt_2, pt_3, pt_4, pt_5, pt_6, pt_7, pt_8, pt_9, co_d, co_fl, frz_d, frz_fl, sqS_eq, sq_nx, sq_rt, sq_bk, sq_ct, sq_ex, skp_eq, rtS_eq, asS_eq, ifS_eq, exS_eq, raS_eq, fin_rt, fin_nx, fin_ex, eC_eq, oV_eq, oVr_some, eV_eq, eVr_some, eM_eq, eMr_some, op1_eq, op2_eq, opn_eq, nilA_eq, consA_eq, tst_eq, tstB_ok, ifE_eq, ifR_t, ifR_f, andT_eq, orT_eq, andR_t, andR_f, orR_f, orR_t, notT_eq, dsO_nil, dsO_cons, tupE_eq, lstE_eq, tupR_some, lstR_some, callE_eq, callR_ok, callR_ex, ar_v, ar_s, refs_nil, refs_v, refs_s, bk_nil, bk_v, bk_s, bk_e, noP_eq, soP_eq, soB_int, smE_eq, smR_str, slE_eq, binA_i, binS_i, cmpE_i, cmpE_s, cmpE_b, cmpN_i, cmpN_s, cmpN_b, cmpI_i, absD_i, maxD_i, intD_i, intD_b, negD_i, lenD_l, lenD_t, ixD_t0, ixD_t1, fzc_eq, upc_eq, ooc_eq, hide_nil, hide_cons, back_nil, back_cons, bk_v1, bk_v2, nmG_eq, yesT_eq, compE_eq, compK_ok, anyS_eq, anyR_some, srO_v, srO_vs, srO_s, srR_fl, srR_d, srR_str, cmpIn_s, cmpNin_s, cm2_eq, cmR_t, cmR_f, andE_eq, orE_eq, notE_eq, andV_t, andV_f, orV_f, orV_t, notV_b, parS_eq, parR_2, callO_v, callO_vv, callO_vvv, callO_s, callO_sv, callO_svv, slD_l, allD_1, allD_2, isN_eq, forS_eq, forR_nil, enumS_eq, enR_some, isiD_str, lkN_s, lkN_v0, lkN_vi, lkR_0, lkR_i, lkR_fl, lkR_l, lkR_ex, beq_tt, beq_tf, beq_ft, beq_ff, siS_eq, siQ_fl, siR_0, siR_2, ixD_l0, ixD_l1, ixD_l2, bitsD_i, rngS1_eq, bd_ok, bd_ex, bs_ok, bs_ex, fz_d, fz_fl, fz_ex, up_ok, up_ex, oo_ok, oo_ex, lk_v, lk_s, lks_nil, lks_cons, ret_some, ret_none, Option.bind_some, Option.map_some, List.length_cons, List.length_nil, if_true, Bool.false_eq_true, if_false, Bool.not_true, Bool.not_false, List.map_cons, List.map_nil, List.cons_append, List.nil_append, List.append_nil, Nat.reduceAdd, Nat.reduceLT, Nat.zero_add, Nat.reduceLeDiff, eq_self, true_and, and_true, hl, z2, cg, hd, hd2, Bool.false_and, Bool.and_false]
        exact ⟨_, rfl⟩
      | true =>
        cases h0 : (q == ("0" : Str)) with
        | true =>
          simp only [gt_0, pt_0, gt_1, gt_2, gt_3, gt_4, gt_5, gt_6, gt_7, gt_8, gt_9, pt_1, pt_2, pt_3, pt_4, pt_5, pt_6, pt_7, pt_8, pt_9, co_d, co_fl, frz_d, frz_fl, sqS_eq, sq_nx, sq_rt, sq_bk, sq_ct, sq_ex, skp_eq, rtS_eq, asS_eq, ifS_eq, exS_eq, raS_eq, fin_rt, fin_nx, fin_ex, eC_eq, oV_eq, oVr_some, eV_eq, eVr_some, eM_eq, eMr_some, op1_eq, op2_eq, opn_eq, nilA_eq, consA_eq, tst_eq, tstB_ok, ifE_eq, ifR_t, ifR_f, andT_eq, orT_eq, andR_t, andR_f, orR_f, orR_t, notT_eq, dsO_nil, dsO_cons, tupE_eq, lstE_eq, tupR_some, lstR_some, callE_eq, callR_ok, callR_ex, ar_v, ar_s, refs_nil, refs_v, refs_s, bk_nil, bk_v, bk_s, bk_e, noP_eq, soP_eq, soB_int, smE_eq, smR_str, slE_eq, binA_i, binS_i, cmpE_i, cmpE_s, cmpE_b, cmpN_i, cmpN_s, cmpN_b, cmpI_i, absD_i, maxD_i, intD_i, intD_b, negD_i, lenD_l, lenD_t, ixD_t0, ixD_t1, fzc_eq, upc_eq, ooc_eq, hide_nil, hide_cons, back_nil, back_cons, bk_v1, bk_v2, nmG_eq, yesT_eq, compE_eq, compK_ok, anyS_eq, anyR_some, srO_v, srO_vs, srO_s, srR_fl, srR_d, srR_str, cmpIn_s, cmpNin_s, cm2_eq, cmR_t, cmR_f, andE_eq, orE_eq, notE_eq, andV_t, andV_f, orV_f, orV_t, notV_b, parS_eq, parR_2, callO_v, callO_vv, callO_vvv, callO_s, callO_sv, callO_svv, slD_l, allD_1, allD_2, isN_eq, forS_eq, forR_nil, enumS_eq, enR_some, isiD_str, lkN_s, lkN_v0, lkN_vi, lkR_0, lkR_i, lkR_fl, lkR_l, lkR_ex, beq_tt, beq_tf, beq_ft, beq_ff, siS_eq, siQ_fl, siR_0, siR_2, ixD_l0, ixD_l1, ixD_l2, bitsD_i, rngS1_eq, bd_ok, bd_ex, bs_ok, bs_ex, fz_d, fz_fl, fz_ex, up_ok, up_ex, oo_ok, oo_ex, lk_v, lk_s, lks_nil, lks_cons, ret_some, ret_none, Option.bind_some, Option.map_some, List.length_cons, List.length_nil, if_true, Bool.false_eq_true, if_false, Bool.not_true, Bool.not_false, List.map_cons, List.map_nil, List.cons_append, List.nil_append, List.append_nil, Nat.reduceAdd, Nat.reduceLT, Nat.zero_add, Nat.reduceLeDiff, eq_self, true_and, and_true, hl, z2, cg, hd, hd2, h0, i9, z4, Bool.and_false, Bool.and_self]
          exact ⟨_, rfl⟩
        | false =>
          obtain ⟨n, n1, n2, n3, n4⟩ := dgs_num hd
          obtain ⟨m, m1, m2, m3, m4⟩ := dgs_num hd2
          have m5 := m3 h0
          have iD1 := intD_s (by omega) n1
          have iD2 := intD_s (by omega) m1
          obtain ⟨ρa, ea⟩ := e_lowest (top' z p) m (by omega) (by omega)
          have t1 : (top' z p).natAbs < 10 ^ 10 := by
            unfold top'
            rw [num_of n1]
            split <;> omega
          obtain ⟨ρb, eb⟩ := e_fw_low (top' z p) m t1 (by omega)
          have ht : top' z p = if neg z = true then -(n : Int) else (n : Int) := by unfold top'; rw [num_of n1]
          have key : ∀ b : Bool, (cutS z none (some 1) == ("-" : Str)) = b → neg z = b := fun b h => h
          rw [num_of m1]
          unfold frq
          cases hn : (cutS z none (some 1) == ("-" : Str)) with
          | true =>
            rw [key _ hn, if_pos rfl] at ht
            rw [ht] at ea eb ⊢
            cases hw : (wds ((-(n : Int)).fdiv (Nat.gcd (-(n : Int)).natAbs (m : Int).natAbs : Nat)) ((m : Int).fdiv (Nat.gcd (-(n : Int)).natAbs (m : Int).natAbs : Nat)) == z) with
            | true =>
              simp only [gt_0, pt_0, gt_1, gt_2, gt_3, gt_4, gt_5, gt_6, gt_7, gt_8, gt_9, pt_1, pt_2, pt_3, pt_4, pt_5, pt_6, pt_7, pt_8, pt_9, co_d, co_fl, frz_d, frz_fl, sqS_eq, sq_nx, sq_rt, sq_bk, sq_ct, sq_ex, skp_eq, rtS_eq, asS_eq, ifS_eq, exS_eq, raS_eq, fin_rt, fin_nx, fin_ex, eC_eq, oV_eq, oVr_some, eV_eq, eVr_some, eM_eq, eMr_some, op1_eq, op2_eq, opn_eq, nilA_eq, consA_eq, tst_eq, tstB_ok, ifE_eq, ifR_t, ifR_f, andT_eq, orT_eq, andR_t, andR_f, orR_f, orR_t, notT_eq, dsO_nil, dsO_cons, tupE_eq, lstE_eq, tupR_some, lstR_some, callE_eq, callR_ok, callR_ex, ar_v, ar_s, refs_nil, refs_v, refs_s, bk_nil, bk_v, bk_s, bk_e, noP_eq, soP_eq, soB_int, smE_eq, smR_str, slE_eq, binA_i, binS_i, cmpE_i, cmpE_s, cmpE_b, cmpN_i, cmpN_s, cmpN_b, cmpI_i, absD_i, maxD_i, intD_i, intD_b, negD_i, lenD_l, lenD_t, ixD_t0, ixD_t1, fzc_eq, upc_eq, ooc_eq, hide_nil, hide_cons, back_nil, back_cons, bk_v1, bk_v2, nmG_eq, yesT_eq, compE_eq, compK_ok, anyS_eq, anyR_some, srO_v, srO_vs, srO_s, srR_fl, srR_d, srR_str, cmpIn_s, cmpNin_s, cm2_eq, cmR_t, cmR_f, andE_eq, orE_eq, notE_eq, andV_t, andV_f, orV_f, orV_t, notV_b, parS_eq, parR_2, callO_v, callO_vv, callO_vvv, callO_s, callO_sv, callO_svv, slD_l, allD_1, allD_2, isN_eq, forS_eq, forR_nil, enumS_eq, enR_some, isiD_str, lkN_s, lkN_v0, lkN_vi, lkR_0, lkR_i, lkR_fl, lkR_l, lkR_ex, beq_tt, beq_tf, beq_ft, beq_ff, siS_eq, siQ_fl, siR_0, siR_2, ixD_l0, ixD_l1, ixD_l2, bitsD_i, rngS1_eq, bd_ok, bd_ex, bs_ok, bs_ex, fz_d, fz_fl, fz_ex, up_ok, up_ex, oo_ok, oo_ex, lk_v, lk_s, lks_nil, lks_cons, ret_some, ret_none, Option.bind_some, Option.map_some, List.length_cons, List.length_nil, if_true, Bool.false_eq_true, if_false, Bool.not_true, Bool.not_false, List.map_cons, List.map_nil, List.cons_append, List.nil_append, List.append_nil, Nat.reduceAdd, Nat.reduceLT, Nat.zero_add, Nat.reduceLeDiff, eq_self, true_and, and_true, hl, z2, cg, hd, hd2, h0, i9, z4, Bool.and_self, slD_s hz', hn, i0, i1, iD1, iD2, ea, eb, hw]
              exact ⟨_, rfl⟩
            | false =>
              simp only [gt_0, pt_0, gt_1, gt_2, gt_3, gt_4, gt_5, gt_6, gt_7, gt_8, gt_9, pt_1, pt_2, pt_3, pt_4, pt_5, pt_6, pt_7, pt_8, pt_9, co_d, co_fl, frz_d, frz_fl, sqS_eq, sq_nx, sq_rt, sq_bk, sq_ct, sq_ex, skp_eq, rtS_eq, asS_eq, ifS_eq, exS_eq, raS_eq, fin_rt, fin_nx, fin_ex, eC_eq, oV_eq, oVr_some, eV_eq, eVr_some, eM_eq, eMr_some, op1_eq, op2_eq, opn_eq, nilA_eq, consA_eq, tst_eq, tstB_ok, ifE_eq, ifR_t, ifR_f, andT_eq, orT_eq, andR_t, andR_f, orR_f, orR_t, notT_eq, dsO_nil, dsO_cons, tupE_eq, lstE_eq, tupR_some, lstR_some, callE_eq, callR_ok, callR_ex, ar_v, ar_s, refs_nil, refs_v, refs_s, bk_nil, bk_v, bk_s, bk_e, noP_eq, soP_eq, soB_int, smE_eq, smR_str, slE_eq, binA_i, binS_i, cmpE_i, cmpE_s, cmpE_b, cmpN_i, cmpN_s, cmpN_b, cmpI_i, absD_i, maxD_i, intD_i, intD_b, negD_i, lenD_l, lenD_t, ixD_t0, ixD_t1, fzc_eq, upc_eq, ooc_eq, hide_nil, hide_cons, back_nil, back_cons, bk_v1, bk_v2, nmG_eq, yesT_eq, compE_eq, compK_ok, anyS_eq, anyR_some, srO_v, srO_vs, srO_s, srR_fl, srR_d, srR_str, cmpIn_s, cmpNin_s, cm2_eq, cmR_t, cmR_f, andE_eq, orE_eq, notE_eq, andV_t, andV_f, orV_f, orV_t, notV_b, parS_eq, parR_2, callO_v, callO_vv, callO_vvv, callO_s, callO_sv, callO_svv, slD_l, allD_1, allD_2, isN_eq, forS_eq, forR_nil, enumS_eq, enR_some, isiD_str, lkN_s, lkN_v0, lkN_vi, lkR_0, lkR_i, lkR_fl, lkR_l, lkR_ex, beq_tt, beq_tf, beq_ft, beq_ff, siS_eq, siQ_fl, siR_0, siR_2, ixD_l0, ixD_l1, ixD_l2, bitsD_i, rngS1_eq, bd_ok, bd_ex, bs_ok, bs_ex, fz_d, fz_fl, fz_ex, up_ok, up_ex, oo_ok, oo_ex, lk_v, lk_s, lks_nil, lks_cons, ret_some, ret_none, Option.bind_some, Option.map_some, List.length_cons, List.length_nil, if_true, Bool.false_eq_true, if_false, Bool.not_true, Bool.not_false, List.map_cons, List.map_nil, List.cons_append, List.nil_append, List.append_nil, Nat.reduceAdd, Nat.reduceLT, Nat.zero_add, Nat.reduceLeDiff, eq_self, true_and, and_true, hl, z2, cg, hd, hd2, h0, i9, z4, Bool.and_self, slD_s hz', hn, i0, i1, iD1, iD2, ea, eb, hw]
              exact ⟨_, rfl⟩
          | false =>
            rw [key _ hn] at ht
            simp only [Bool.false_eq_true, if_false] at ht
            rw [ht] at ea eb ⊢
            cases hw : (wds (((n : Int)).fdiv (Nat.gcd ((n : Int)).natAbs (m : Int).natAbs : Nat)) ((m : Int).fdiv (Nat.gcd ((n : Int)).natAbs (m : Int).natAbs : Nat)) == z) with
            | true =>
              simp only [gt_0, pt_0, gt_1, gt_2, gt_3, gt_4, gt_5, gt_6, gt_7, gt_8, gt_9, pt_1, pt_2, pt_3, pt_4, pt_5, pt_6, pt_7, pt_8, pt_9, co_d, co_fl, frz_d, frz_fl, sqS_eq, sq_nx, sq_rt, sq_bk, sq_ct, sq_ex, skp_eq, rtS_eq, asS_eq, ifS_eq, exS_eq, raS_eq, fin_rt, fin_nx, fin_ex, eC_eq, oV_eq, oVr_some, eV_eq, eVr_some, eM_eq, eMr_some, op1_eq, op2_eq, opn_eq, nilA_eq, consA_eq, tst_eq, tstB_ok, ifE_eq, ifR_t, ifR_f, andT_eq, orT_eq, andR_t, andR_f, orR_f, orR_t, notT_eq, dsO_nil, dsO_cons, tupE_eq, lstE_eq, tupR_some, lstR_some, callE_eq, callR_ok, callR_ex, ar_v, ar_s, refs_nil, refs_v, refs_s, bk_nil, bk_v, bk_s, bk_e, noP_eq, soP_eq, soB_int, smE_eq, smR_str, slE_eq, binA_i, binS_i, cmpE_i, cmpE_s, cmpE_b, cmpN_i, cmpN_s, cmpN_b, cmpI_i, absD_i, maxD_i, intD_i, intD_b, negD_i, lenD_l, lenD_t, ixD_t0, ixD_t1, fzc_eq, upc_eq, ooc_eq, hide_nil, hide_cons, back_nil, back_cons, bk_v1, bk_v2, nmG_eq, yesT_eq, compE_eq, compK_ok, anyS_eq, anyR_some, srO_v, srO_vs, srO_s, srR_fl, srR_d, srR_str, cmpIn_s, cmpNin_s, cm2_eq, cmR_t, cmR_f, andE_eq, orE_eq, notE_eq, andV_t, andV_f, orV_f, orV_t, notV_b, parS_eq, parR_2, callO_v, callO_vv, callO_vvv, callO_s, callO_sv, callO_svv, slD_l, allD_1, allD_2, isN_eq, forS_eq, forR_nil, enumS_eq, enR_some, isiD_str, lkN_s, lkN_v0, lkN_vi, lkR_0, lkR_i, lkR_fl, lkR_l, lkR_ex, beq_tt, beq_tf, beq_ft, beq_ff, siS_eq, siQ_fl, siR_0, siR_2, ixD_l0, ixD_l1, ixD_l2, bitsD_i, rngS1_eq, bd_ok, bd_ex, bs_ok, bs_ex, fz_d, fz_fl, fz_ex, up_ok, up_ex, oo_ok, oo_ex, lk_v, lk_s, lks_nil, lks_cons, ret_some, ret_none, Option.bind_some, Option.map_some, List.length_cons, List.length_nil, if_true, Bool.false_eq_true, if_false, Bool.not_true, Bool.not_false, List.map_cons, List.map_nil, List.cons_append, List.nil_append, List.append_nil, Nat.reduceAdd, Nat.reduceLT, Nat.zero_add, Nat.reduceLeDiff, eq_self, true_and, and_true, hl, z2, cg, hd, hd2, h0, i9, z4, Bool.and_self, slD_s hz', hn, i0, i1, iD1, iD2, ea, eb, hw]
              exact ⟨_, rfl⟩
            | false =>
              simp only [gt_0, pt_0, gt_1, gt_2, gt_3, gt_4, gt_5, gt_6, gt_7, gt_8, gt_9, pt_1, pt_2, pt_3, pt_4, pt_5, pt_6, pt_7, pt_8, pt_9, co_d, co_fl, frz_d, frz_fl, sqS_eq, sq_nx, sq_rt, sq_bk, sq_ct, sq_ex, skp_eq, rtS_eq, asS_eq, ifS_eq, exS_eq, raS_eq, fin_rt, fin_nx, fin_ex, eC_eq, oV_eq, oVr_some, eV_eq, eVr_some, eM_eq, eMr_some, op1_eq, op2_eq, opn_eq, nilA_eq, consA_eq, tst_eq, tstB_ok, ifE_eq, ifR_t, ifR_f, andT_eq, orT_eq, andR_t, andR_f, orR_f, orR_t, notT_eq, dsO_nil, dsO_cons, tupE_eq, lstE_eq, tupR_some, lstR_some, callE_eq, callR_ok, callR_ex, ar_v, ar_s, refs_nil, refs_v, refs_s, bk_nil, bk_v, bk_s, bk_e, noP_eq, soP_eq, soB_int, smE_eq, smR_str, slE_eq, binA_i, binS_i, cmpE_i, cmpE_s, cmpE_b, cmpN_i, cmpN_s, cmpN_b, cmpI_i, absD_i, maxD_i, intD_i, intD_b, negD_i, lenD_l, lenD_t, ixD_t0, ixD_t1, fzc_eq, upc_eq, ooc_eq, hide_nil, hide_cons, back_nil, back_cons, bk_v1, bk_v2, nmG_eq, yesT_eq, compE_eq, compK_ok, anyS_eq, anyR_some, srO_v, srO_vs, srO_s, srR_fl, srR_d, srR_str, cmpIn_s, cmpNin_s, cm2_eq, cmR_t, cmR_f, andE_eq, orE_eq, notE_eq, andV_t, andV_f, orV_f, orV_t, notV_b, parS_eq, parR_2, callO_v, callO_vv, callO_vvv, callO_s, callO_sv, callO_svv, slD_l, allD_1, allD_2, isN_eq, forS_eq, forR_nil, enumS_eq, enR_some, isiD_str, lkN_s, lkN_v0, lkN_vi, lkR_0, lkR_i, lkR_fl, lkR_l, lkR_ex, beq_tt, beq_tf, beq_ft, beq_ff, siS_eq, siQ_fl, siR_0, siR_2, ixD_l0, ixD_l1, ixD_l2, bitsD_i, rngS1_eq, bd_ok, bd_ex, bs_ok, bs_ex, fz_d, fz_fl, fz_ex, up_ok, up_ex, oo_ok, oo_ex, lk_v, lk_s, lks_nil, lks_cons, ret_some, ret_none, Option.bind_some, Option.map_some, List.length_cons, List.length_nil, if_true, Bool.false_eq_true, if_false, Bool.not_true, Bool.not_false, List.map_cons, List.map_nil, List.cons_append, List.nil_append, List.append_nil, Nat.reduceAdd, Nat.reduceLT, Nat.zero_add, Nat.reduceLeDiff, eq_self, true_and, and_true, hl, z2, cg, hd, hd2, h0, i9, z4, Bool.and_self, slD_s hz', hn, i0, i1, iD1, iD2, ea, eb, hw]
              exact ⟨_, rfl⟩
  | p :: q :: r :: l =>
    have er : fr z = .none := by unfold fr; rw [hp]
    rw [er]
    have hl : decide ((2 : Int) < ((List.map PyData.str (p :: q :: r :: l)).length : Int)) = true := by simp; omega
    generalize List.map PyData.str (p :: q :: r :: l) = ps at hl
    simp only [gt_0, pt_0, gt_1, gt_2, gt_3, gt_4, gt_5, gt_6, gt_7, gt_8, gt_9, pt_1, pt_2, pt_3, pt_4, pt_5, pt_6, pt_7, pt_8, pt_9, co_d, co_fl, frz_d, frz_fl, sqS_eq, sq_nx, sq_rt, sq_bk, sq_ct, sq_ex, skp_eq, rtS_eq, asS_eq, ifS_eq, exS_eq, raS_eq, fin_rt, fin_nx, fin_ex, eC_eq, oV_eq, oVr_some, eV_eq, eVr_some, eM_eq, eMr_some, op1_eq, op2_eq, opn_eq, nilA_eq, consA_eq, tst_eq, tstB_ok, ifE_eq, ifR_t, ifR_f, andT_eq, orT_eq, andR_t, andR_f, orR_f, orR_t, notT_eq, dsO_nil, dsO_cons, tupE_eq, lstE_eq, tupR_some, lstR_some, callE_eq, callR_ok, callR_ex, ar_v, ar_s, refs_nil, refs_v, refs_s, bk_nil, bk_v, bk_s, bk_e, noP_eq, soP_eq, soB_int, smE_eq, smR_str, slE_eq, binA_i, binS_i, cmpE_i, cmpE_s, cmpE_b, cmpN_i, cmpN_s, cmpN_b, cmpI_i, absD_i, maxD_i, intD_i, intD_b, negD_i, lenD_l, lenD_t, ixD_t0, ixD_t1, fzc_eq, upc_eq, ooc_eq, hide_nil, hide_cons, back_nil, back_cons, bk_v1, bk_v2, nmG_eq, yesT_eq, compE_eq, compK_ok, anyS_eq, anyR_some, srO_v, srO_vs, srO_s, srR_fl, srR_d, srR_str, cmpIn_s, cmpNin_s, cm2_eq, cmR_t, cmR_f, andE_eq, orE_eq, notE_eq, andV_t, andV_f, orV_f, orV_t, notV_b, parS_eq, parR_2, callO_v, callO_vv, callO_vvv, callO_s, callO_sv, callO_svv, slD_l, allD_1, allD_2, isN_eq, forS_eq, forR_nil, enumS_eq, enR_some, isiD_str, lkN_s, lkN_v0, lkN_vi, lkR_0, lkR_i, lkR_fl, lkR_l, lkR_ex, beq_tt, beq_tf, beq_ft, beq_ff, siS_eq, siQ_fl, siR_0, siR_2, ixD_l0, ixD_l1, ixD_l2, bitsD_i, rngS1_eq, bd_ok, bd_ex, bs_ok, bs_ex, fz_d, fz_fl, fz_ex, up_ok, up_ex, oo_ok, oo_ex, lk_v, lk_s, lks_nil, lks_cons, ret_some, ret_none, Option.bind_some, Option.map_some, List.length_cons, List.length_nil, if_true, Bool.false_eq_true, if_false, Bool.not_true, Bool.not_false, List.map_cons, List.map_nil, List.cons_append, List.nil_append, List.append_nil, Nat.reduceAdd, Nat.reduceLT, Nat.zero_add, Nat.reduceLeDiff, eq_self, true_and, and_true, hl]
    exact ⟨_, rfl⟩
theorem s_read1 (z : Str) (hz : z.length ≤ B0) (o2 o3 o4 o5 : Option W) : asS 1 (smE splitD (ooc (fzc (ifE (tst (op2 cmpE (ooc (fzc (slE (oV 0) noP (soP (eC (.int 1)))))) (ooc (eC (.str "-"))))) (slE (oV 0) (soP (eC (.int 1))) noP) (upc (eV 0))))) (ooc (eC (.str "/")))) [some (.d (.str z)), none, o2, o3, o4, o5] =
    .nx [some (.d (.str z)), some (.fl ((pts z).map .str)), o2, o3, o4, o5] := by
  have hz' : z.length ≤ 16777216 := by unfold B0 at hz; omega
  have h2 := bdy_len z
  have hs : (bdy z).length + 2 ≤ 16777216 := by unfold B0 at hz; omega
  have hy : (("/" : Str).length == 0) = false := by decide
  unfold pts
  cases hn : neg z with
  | true =>
    have hb : bdy z = cutS z (some 1) none := by unfold bdy; rw [if_pos hn]
    have hn' : (cutS z none (some 1) == ("-" : Str)) = true := hn
    rw [hb] at hs ⊢
    simp only [gt_0, pt_0, gt_1, gt_2, gt_3, gt_4, gt_5, gt_6, gt_7, gt_8, gt_9, pt_1, pt_2, pt_3, pt_4, pt_5, pt_6, pt_7, pt_8, pt_9, co_d, co_fl, frz_d, frz_fl, sqS_eq, sq_nx, sq_rt, sq_bk, sq_ct, sq_ex, skp_eq, rtS_eq, asS_eq, ifS_eq, exS_eq, raS_eq, fin_rt, fin_nx, fin_ex, eC_eq, oV_eq, oVr_some, eV_eq, eVr_some, eM_eq, eMr_some, op1_eq, op2_eq, opn_eq, nilA_eq, consA_eq, tst_eq, tstB_ok, ifE_eq, ifR_t, ifR_f, andT_eq, orT_eq, andR_t, andR_f, orR_f, orR_t, notT_eq, dsO_nil, dsO_cons, tupE_eq, lstE_eq, tupR_some, lstR_some, callE_eq, callR_ok, callR_ex, ar_v, ar_s, refs_nil, refs_v, refs_s, bk_nil, bk_v, bk_s, bk_e, noP_eq, soP_eq, soB_int, smE_eq, smR_str, slE_eq, binA_i, binS_i, cmpE_i, cmpE_s, cmpE_b, cmpN_i, cmpN_s, cmpN_b, cmpI_i, absD_i, maxD_i, intD_i, intD_b, negD_i, lenD_l, lenD_t, ixD_t0, ixD_t1, fzc_eq, upc_eq, ooc_eq, hide_nil, hide_cons, back_nil, back_cons, bk_v1, bk_v2, nmG_eq, yesT_eq, compE_eq, compK_ok, anyS_eq, anyR_some, srO_v, srO_vs, srO_s, srR_fl, srR_d, srR_str, cmpIn_s, cmpNin_s, cm2_eq, cmR_t, cmR_f, andE_eq, orE_eq, notE_eq, andV_t, andV_f, orV_f, orV_t, notV_b, parS_eq, parR_2, callO_v, callO_vv, callO_vvv, callO_s, callO_sv, callO_svv, slD_l, allD_1, allD_2, isN_eq, forS_eq, forR_nil, enumS_eq, enR_some, isiD_str, lkN_s, lkN_v0, lkN_vi, lkR_0, lkR_i, lkR_fl, lkR_l, lkR_ex, beq_tt, beq_tf, beq_ft, beq_ff, siS_eq, siQ_fl, siR_0, siR_2, ixD_l0, ixD_l1, ixD_l2, bitsD_i, rngS1_eq, bd_ok, bd_ex, bs_ok, bs_ex, fz_d, fz_fl, fz_ex, up_ok, up_ex, oo_ok, oo_ex, lk_v, lk_s, lks_nil, lks_cons, ret_some, ret_none, Option.bind_some, Option.map_some, List.length_cons, List.length_nil, if_true, Bool.false_eq_true, if_false, Bool.not_true, Bool.not_false, List.map_cons, List.map_nil, List.cons_append, List.nil_append, List.append_nil, Nat.reduceAdd, Nat.reduceLT, Nat.zero_add, Nat.reduceLeDiff, eq_self, true_and, and_true, slD_s hz', hn', splitD_s hy hs]
  | false =>
    have hb : bdy z = z := by unfold bdy; rw [hn]; rfl
    have hn' : (cutS z none (some 1) == ("-" : Str)) = false := hn
    rw [hb] at hs ⊢
    simp only [gt_0, pt_0, gt_1, gt_2, gt_3, gt_4, gt_5, gt_6, gt_7, gt_8, gt_9, pt_1, pt_2, pt_3, pt_4, pt_5, pt_6, pt_7, pt_8, pt_9, co_d, co_fl, frz_d, frz_fl, sqS_eq, sq_nx, sq_rt, sq_bk, sq_ct, sq_ex, skp_eq, rtS_eq, asS_eq, ifS_eq, exS_eq, raS_eq, fin_rt, fin_nx, fin_ex, eC_eq, oV_eq, oVr_some, eV_eq, eVr_some, eM_eq, eMr_some, op1_eq, op2_eq, opn_eq, nilA_eq, consA_eq, tst_eq, tstB_ok, ifE_eq, ifR_t, ifR_f, andT_eq, orT_eq, andR_t, andR_f, orR_f, orR_t, notT_eq, dsO_nil, dsO_cons, tupE_eq, lstE_eq, tupR_some, lstR_some, callE_eq, callR_ok, callR_ex, ar_v, ar_s, refs_nil, refs_v, refs_s, bk_nil, bk_v, bk_s, bk_e, noP_eq, soP_eq, soB_int, smE_eq, smR_str, slE_eq, binA_i, binS_i, cmpE_i, cmpE_s, cmpE_b, cmpN_i, cmpN_s, cmpN_b, cmpI_i, absD_i, maxD_i, intD_i, intD_b, negD_i, lenD_l, lenD_t, ixD_t0, ixD_t1, fzc_eq, upc_eq, ooc_eq, hide_nil, hide_cons, back_nil, back_cons, bk_v1, bk_v2, nmG_eq, yesT_eq, compE_eq, compK_ok, anyS_eq, anyR_some, srO_v, srO_vs, srO_s, srR_fl, srR_d, srR_str, cmpIn_s, cmpNin_s, cm2_eq, cmR_t, cmR_f, andE_eq, orE_eq, notE_eq, andV_t, andV_f, orV_f, orV_t, notV_b, parS_eq, parR_2, callO_v, callO_vv, callO_vvv, callO_s, callO_sv, callO_svv, slD_l, allD_1, allD_2, isN_eq, forS_eq, forR_nil, enumS_eq, enR_some, isiD_str, lkN_s, lkN_v0, lkN_vi, lkR_0, lkR_i, lkR_fl, lkR_l, lkR_ex, beq_tt, beq_tf, beq_ft, beq_ff, siS_eq, siQ_fl, siR_0, siR_2, ixD_l0, ixD_l1, ixD_l2, bitsD_i, rngS1_eq, bd_ok, bd_ex, bs_ok, bs_ex, fz_d, fz_fl, fz_ex, up_ok, up_ex, oo_ok, oo_ex, lk_v, lk_s, lks_nil, lks_cons, ret_some, ret_none, Option.bind_some, Option.map_some, List.length_cons, List.length_nil, if_true, Bool.false_eq_true, if_false, Bool.not_true, Bool.not_false, List.map_cons, List.map_nil, List.cons_append, List.nil_append, List.append_nil, Nat.reduceAdd, Nat.reduceLT, Nat.zero_add, Nat.reduceLeDiff, eq_self, true_and, and_true, slD_s hz', hn', splitD_s hy hs]
def ndg : PyData → Bool
  | .str w => !dgs w
  | _ => false
theorem cg_read (z : Str) (hz : z.length ≤ B0) (hok : PyData.strOk z = true) : compGo ([5] ++ [1]) (nmG 5) (notT (tst (callE 1 f_x_law_digits (consA (ooc (eV 5)) nilA)))) (eV 5) ((pts z).map PyData.str) (hide ([5] ++ [1]) [some (.d (.str z)), some (.fl ((pts z).map .str)), none, none, none, none]) =
    some ((((pts z).map PyData.str).filter ndg).map id, [some (.d (.str z)), none, none, none, none, none]) := by
  rw [show hide ([5] ++ [1]) [some (W.d (.str z)), some (.fl ((pts z).map .str)), none, none, none, none] = [some (W.d (.str z)), none, none, none, none, none] from rfl]
  refine compGo_filter _ id ndg fun x hx => ?_
  obtain ⟨p, hp, rfl⟩ := List.mem_map.mp hx
  obtain ⟨ρ, e⟩ := e_law_digits p (pts_len hz hp) (pts_ok hok hp)
  refine ⟨[some (.d (.str z)), none, none, none, none, some (.d (.str p))], [some (.d (.str z)), none, none, none, none, some (.d (.str p))], [some (.d (.str z)), none, none, none, none, some (.d (.str p))], by simp only [gt_0, pt_0, gt_1, gt_2, gt_3, gt_4, gt_5, gt_6, gt_7, gt_8, gt_9, pt_1, pt_2, pt_3, pt_4, pt_5, pt_6, pt_7, pt_8, pt_9, co_d, co_fl, frz_d, frz_fl, sqS_eq, sq_nx, sq_rt, sq_bk, sq_ct, sq_ex, skp_eq, rtS_eq, asS_eq, ifS_eq, exS_eq, raS_eq, fin_rt, fin_nx, fin_ex, eC_eq, oV_eq, oVr_some, eV_eq, eVr_some, eM_eq, eMr_some, op1_eq, op2_eq, opn_eq, nilA_eq, consA_eq, tst_eq, tstB_ok, ifE_eq, ifR_t, ifR_f, andT_eq, orT_eq, andR_t, andR_f, orR_f, orR_t, notT_eq, dsO_nil, dsO_cons, tupE_eq, lstE_eq, tupR_some, lstR_some, callE_eq, callR_ok, callR_ex, ar_v, ar_s, refs_nil, refs_v, refs_s, bk_nil, bk_v, bk_s, bk_e, noP_eq, soP_eq, soB_int, smE_eq, smR_str, slE_eq, binA_i, binS_i, cmpE_i, cmpE_s, cmpE_b, cmpN_i, cmpN_s, cmpN_b, cmpI_i, absD_i, maxD_i, intD_i, intD_b, negD_i, lenD_l, lenD_t, ixD_t0, ixD_t1, fzc_eq, upc_eq, ooc_eq, hide_nil, hide_cons, back_nil, back_cons, bk_v1, bk_v2, nmG_eq, yesT_eq, compE_eq, compK_ok, anyS_eq, anyR_some, srO_v, srO_vs, srO_s, srR_fl, srR_d, srR_str, cmpIn_s, cmpNin_s, cm2_eq, cmR_t, cmR_f, andE_eq, orE_eq, notE_eq, andV_t, andV_f, orV_f, orV_t, notV_b, parS_eq, parR_2, callO_v, callO_vv, callO_vvv, callO_s, callO_sv, callO_svv, slD_l, allD_1, allD_2, isN_eq, forS_eq, forR_nil, enumS_eq, enR_some, isiD_str, lkN_s, lkN_v0, lkN_vi, lkR_0, lkR_i, lkR_fl, lkR_l, lkR_ex, beq_tt, beq_tf, beq_ft, beq_ff, siS_eq, siQ_fl, siR_0, siR_2, ixD_l0, ixD_l1, ixD_l2, bitsD_i, rngS1_eq, bd_ok, bd_ex, bs_ok, bs_ex, fz_d, fz_fl, fz_ex, up_ok, up_ex, oo_ok, oo_ex, lk_v, lk_s, lks_nil, lks_cons, ret_some, ret_none, Option.bind_some, Option.map_some, List.length_cons, List.length_nil, if_true, Bool.false_eq_true, if_false, Bool.not_true, Bool.not_false, List.map_cons, List.map_nil, List.cons_append, List.nil_append, List.append_nil, Nat.reduceAdd, Nat.reduceLT, Nat.zero_add, Nat.reduceLeDiff, eq_self, true_and, and_true], ?_, fun _ => ⟨rfl, rfl⟩, fun _ => rfl⟩
  simp only [gt_0, pt_0, gt_1, gt_2, gt_3, gt_4, gt_5, gt_6, gt_7, gt_8, gt_9, pt_1, pt_2, pt_3, pt_4, pt_5, pt_6, pt_7, pt_8, pt_9, co_d, co_fl, frz_d, frz_fl, sqS_eq, sq_nx, sq_rt, sq_bk, sq_ct, sq_ex, skp_eq, rtS_eq, asS_eq, ifS_eq, exS_eq, raS_eq, fin_rt, fin_nx, fin_ex, eC_eq, oV_eq, oVr_some, eV_eq, eVr_some, eM_eq, eMr_some, op1_eq, op2_eq, opn_eq, nilA_eq, consA_eq, tst_eq, tstB_ok, ifE_eq, ifR_t, ifR_f, andT_eq, orT_eq, andR_t, andR_f, orR_f, orR_t, notT_eq, dsO_nil, dsO_cons, tupE_eq, lstE_eq, tupR_some, lstR_some, callE_eq, callR_ok, callR_ex, ar_v, ar_s, refs_nil, refs_v, refs_s, bk_nil, bk_v, bk_s, bk_e, noP_eq, soP_eq, soB_int, smE_eq, smR_str, slE_eq, binA_i, binS_i, cmpE_i, cmpE_s, cmpE_b, cmpN_i, cmpN_s, cmpN_b, cmpI_i, absD_i, maxD_i, intD_i, intD_b, negD_i, lenD_l, lenD_t, ixD_t0, ixD_t1, fzc_eq, upc_eq, ooc_eq, hide_nil, hide_cons, back_nil, back_cons, bk_v1, bk_v2, nmG_eq, yesT_eq, compE_eq, compK_ok, anyS_eq, anyR_some, srO_v, srO_vs, srO_s, srR_fl, srR_d, srR_str, cmpIn_s, cmpNin_s, cm2_eq, cmR_t, cmR_f, andE_eq, orE_eq, notE_eq, andV_t, andV_f, orV_f, orV_t, notV_b, parS_eq, parR_2, callO_v, callO_vv, callO_vvv, callO_s, callO_sv, callO_svv, slD_l, allD_1, allD_2, isN_eq, forS_eq, forR_nil, enumS_eq, enR_some, isiD_str, lkN_s, lkN_v0, lkN_vi, lkR_0, lkR_i, lkR_fl, lkR_l, lkR_ex, beq_tt, beq_tf, beq_ft, beq_ff, siS_eq, siQ_fl, siR_0, siR_2, ixD_l0, ixD_l1, ixD_l2, bitsD_i, rngS1_eq, bd_ok, bd_ex, bs_ok, bs_ex, fz_d, fz_fl, fz_ex, up_ok, up_ex, oo_ok, oo_ex, lk_v, lk_s, lks_nil, lks_cons, ret_some, ret_none, Option.bind_some, Option.map_some, List.length_cons, List.length_nil, if_true, Bool.false_eq_true, if_false, Bool.not_true, Bool.not_false, List.map_cons, List.map_nil, List.cons_append, List.nil_append, List.append_nil, Nat.reduceAdd, Nat.reduceLT, Nat.zero_add, Nat.reduceLeDiff, eq_self, true_and, and_true, e]
  rfl
theorem sh_read (z : Str) (hok : PyData.strOk z = true) : SeqAt.shaped (.list ((((pts z).map PyData.str).filter ndg).map id)) = true := by
  refine shaped_list (n := 2) (by decide) fun x hx => ?_
  rw [List.map_id] at hx
  obtain ⟨p, hp, rfl⟩ := List.mem_map.mp (List.mem_filter.mp hx).1
  exact flat_str (pts_ok hok hp)
theorem em_read (l : List Str) : (((l.map PyData.str).filter ndg).map id).isEmpty = l.all dgs := by
  rw [List.map_id, Bool.eq_iff_iff, List.isEmpty_iff, List.filter_eq_nil_iff, List.all_eq_true]
  constructor
  · intro h c hc
    have := h _ (List.mem_map.mpr ⟨c, hc, rfl⟩)
    simpa [ndg] using this
  · intro h x hx
    obtain ⟨c, hc, rfl⟩ := List.mem_map.mp hx
    have := h c hc
    simpa [ndg] using this
theorem sh_nil : SeqAt.shaped (.list []) = true := shaped_list (n := 2) (by decide) fun x hx => (nomatch hx)
theorem e_read_number (z : Str) (hz : z.length ≤ B0) (hok : PyData.strOk z = true) : ∃ ρ, f_x_law_read_number [some (.d (.str z))] = .ok (.d (fr z)) ρ := by
  rw [show f_x_law_read_number [some (.d (.str z))] = finR 1 [1, 2, 3, 4] (s_x_law_read_number [some (.d (.str z)), none, none, none, none, none]) from bodyR_eq ..]
  unfold s_x_law_read_number
  rw [sqS_eq, s_read1 z hz, sq_nx]
  have hc : ((pts z).map PyData.str).length ≤ 16777216 := by rw [List.length_map]; exact pts_cnt hz
  have cg := compR_ok hc (cg_read z hz hok)
  rw [show back ([5] ++ [1]) [some (W.d (.str z)), some (.fl ((pts z).map .str)), none, none, none, none] [some (W.d (.str z)), none, none, none, none, none] = [some (W.d (.str z)), some (.fl ((pts z).map .str)), none, none, none, none] from rfl] at cg
  have cn := cmpN_l (sh_read z hok) sh_nil
  rw [eqv_nil, em_read] at cn
  have z1 : decide ((2 : Int) < 1) = false := rfl
  have z2 : decide ((2 : Int) < 2) = false := rfl
  have z3 : ((1 : Int) == 2) = false := rfl
  have z4 : ((2 : Int) == 2) = true := rfl
  have hz' : z.length ≤ 16777216 := by unfold B0 at hz; omega
  generalize (((pts z).map PyData.str).filter ndg).map id = ys at cg cn
  match hp : pts z with
  | [] =>
    have : 1 ≤ (pts z).length := PyProof.Rows.split_pos _ _
    rw [hp] at this
    exact absurd this (by decide)
  | [p] =>
    have er : fr z = if dgs p = true then frq z (top' z p) 1 else .none := by unfold fr; rw [hp]
    rw [hp] at cg cn
    rw [er]
    have ha : List.all [p] dgs = dgs p := by simp
    rw [ha] at cn
    have hl : ((List.map PyData.str [p]).length : Int) = 1 := rfl
    have i0 : ixD (.list (List.map PyData.str [p])) (.int 0) = some (.d (.str p)) := ixD_l rfl
    generalize List.map PyData.str [p] = ps at hl i0 cg
    cases hd : dgs p with
    | false =>
      rw [hd] at cn
      simp only [gt_0, pt_0, gt_1, gt_2, gt_3, gt_4, gt_5, gt_6, gt_7, gt_8, gt_9, pt_1, pt_2, pt_3, pt_4, pt_5, pt_6, pt_7, pt_8, pt_9, co_d, co_fl, frz_d, frz_fl, sqS_eq, sq_nx, sq_rt, sq_bk, sq_ct, sq_ex, skp_eq, rtS_eq, asS_eq, ifS_eq, exS_eq, raS_eq, fin_rt, fin_nx, fin_ex, eC_eq, oV_eq, oVr_some, eV_eq, eVr_some, eM_eq, eMr_some, op1_eq, op2_eq, opn_eq, nilA_eq, consA_eq, tst_eq, tstB_ok, ifE_eq, ifR_t, ifR_f, andT_eq, orT_eq, andR_t, andR_f, orR_f, orR_t, notT_eq, dsO_nil, dsO_cons, tupE_eq, lstE_eq, tupR_some, lstR_some, callE_eq, callR_ok, callR_ex, ar_v, ar_s, refs_nil, refs_v, refs_s, bk_nil, bk_v, bk_s, bk_e, noP_eq, soP_eq, soB_int, smE_eq, smR_str, slE_eq, binA_i, binS_i, cmpE_i, cmpE_s, cmpE_b, cmpN_i, cmpN_s, cmpN_b, cmpI_i, absD_i, maxD_i, intD_i, intD_b, negD_i, lenD_l, lenD_t, ixD_t0, ixD_t1, fzc_eq, upc_eq, ooc_eq, hide_nil, hide_cons, back_nil, back_cons, bk_v1, bk_v2, nmG_eq, yesT_eq, compE_eq, compK_ok, anyS_eq, anyR_some, srO_v, srO_vs, srO_s, srR_fl, srR_d, srR_str, cmpIn_s, cmpNin_s, cm2_eq, cmR_t, cmR_f, andE_eq, orE_eq, notE_eq, andV_t, andV_f, orV_f, orV_t, notV_b, parS_eq, parR_2, callO_v, callO_vv, callO_vvv, callO_s, callO_sv, callO_svv, slD_l, allD_1, allD_2, isN_eq, forS_eq, forR_nil, enumS_eq, enR_some, isiD_str, lkN_s, lkN_v0, lkN_vi, lkR_0, lkR_i, lkR_fl, lkR_l, lkR_ex, beq_tt, beq_tf, beq_ft, beq_ff, siS_eq, siQ_fl, siR_0, siR_2, ixD_l0, ixD_l1, ixD_l2, bitsD_i, rngS1_eq, bd_ok, bd_ex, bs_ok, bs_ex, fz_d, fz_fl, fz_ex, up_ok, up_ex, oo_ok, oo_ex, lk_v, lk_s, lks_nil, lks_cons, ret_some, ret_none, Option.bind_some, Option.map_some, List.length_cons, List.length_nil, if_true, Bool.false_eq_true, if_false, Bool.not_true, Bool.not_false, List.map_cons, List.map_nil, List.cons_append, List.nil_append, List.append_nil, Nat.reduceAdd, Nat.reduceLT, Nat.zero_add, Nat.reduceLeDiff, eq_self, true_and, and_true, hl, z1, cg, cn, hd, Nat.zero_le]
      exact ⟨_, rfl⟩
    | true =>
      rw [hd] at cn
      obtain ⟨n, n1, n2, n3, n4⟩ := dgs_num hd
      have iD1 := intD_s (by omega) n1
      obtain ⟨ρa, ea⟩ := e_law_lowest (top' z p) 1 (by decide) (by decide)
      have t1 : (top' z p).natAbs < 10 ^ 10 := by
        unfold top'
        rw [num_of n1]
        split <;> omega
      obtain ⟨ρb, eb⟩ := e_lw_low (top' z p) 1 t1 (by decide)
      have ht : top' z p = if neg z = true then -(n : Int) else (n : Int) := by unfold top'; rw [num_of n1]
      have key : ∀ b : Bool, (cutS z none (some 1) == ("-" : Str)) = b → neg z = b := fun b h => h
      unfold frq
      cases hn : (cutS z none (some 1) == ("-" : Str)) with
      | true =>
        rw [key _ hn, if_pos rfl] at ht
        rw [ht] at ea eb ⊢
        cases hw : (wds ((-(n : Int)).fdiv (Nat.gcd (-(n : Int)).natAbs (1 : Int).natAbs : Nat)) ((1 : Int).fdiv (Nat.gcd (-(n : Int)).natAbs (1 : Int).natAbs : Nat)) == z)
        all_goals
          simp only [gt_0, pt_0, gt_1, gt_2, gt_3, gt_4, gt_5, gt_6, gt_7, gt_8, gt_9, pt_1, pt_2, pt_3, pt_4, pt_5, pt_6, pt_7, pt_8, pt_9, co_d, co_fl, frz_d, frz_fl, sqS_eq, sq_nx, sq_rt, sq_bk, sq_ct, sq_ex, skp_eq, rtS_eq, asS_eq, ifS_eq, exS_eq, raS_eq, fin_rt, fin_nx, fin_ex, eC_eq, oV_eq, oVr_some, eV_eq, eVr_some, eM_eq, eMr_some, op1_eq, op2_eq, opn_eq, nilA_eq, consA_eq, tst_eq, tstB_ok, ifE_eq, ifR_t, ifR_f, andT_eq, orT_eq, andR_t, andR_f, orR_f, orR_t, notT_eq, dsO_nil, dsO_cons, tupE_eq, lstE_eq, tupR_some, lstR_some, callE_eq, callR_ok, callR_ex, ar_v, ar_s, refs_nil, refs_v, refs_s, bk_nil, bk_v, bk_s, bk_e, noP_eq, soP_eq, soB_int, smE_eq, smR_str, slE_eq, binA_i, binS_i, cmpE_i, cmpE_s, cmpE_b, cmpN_i, cmpN_s, cmpN_b, cmpI_i, absD_i, maxD_i, intD_i, intD_b, negD_i, lenD_l, lenD_t, ixD_t0, ixD_t1, fzc_eq, upc_eq, ooc_eq, hide_nil, hide_cons, back_nil, back_cons, bk_v1, bk_v2, nmG_eq, yesT_eq, compE_eq, compK_ok, anyS_eq, anyR_some, srO_v, srO_vs, srO_s, srR_fl, srR_d, srR_str, cmpIn_s, cmpNin_s, cm2_eq, cmR_t, cmR_f, andE_eq, orE_eq, notE_eq, andV_t, andV_f, orV_f, orV_t, notV_b, parS_eq, parR_2, callO_v, callO_vv, callO_vvv, callO_s, callO_sv, callO_svv, slD_l, allD_1, allD_2, isN_eq, forS_eq, forR_nil, enumS_eq, enR_some, isiD_str, lkN_s, lkN_v0, lkN_vi, lkR_0, lkR_i, lkR_fl, lkR_l, lkR_ex, beq_tt, beq_tf, beq_ft, beq_ff, siS_eq, siQ_fl, siR_0, siR_2, ixD_l0, ixD_l1, ixD_l2, bitsD_i, rngS1_eq, bd_ok, bd_ex, bs_ok, bs_ex, fz_d, fz_fl, fz_ex, up_ok, up_ex, oo_ok, oo_ex, lk_v, lk_s, lks_nil, lks_cons, ret_some, ret_none, Option.bind_some, Option.map_some, List.length_cons, List.length_nil, if_true, Bool.false_eq_true, if_false, Bool.not_true, Bool.not_false, List.map_cons, List.map_nil, List.cons_append, List.nil_append, List.append_nil, Nat.reduceAdd, Nat.reduceLT, Nat.zero_add, Nat.reduceLeDiff, eq_self, true_and, and_true, hl, z1, cg, cn, hd, z3, Nat.zero_le, slD_s hz', hn, i0, iD1, Int.zero_sub, ea, eb, hw]
          exact ⟨_, rfl⟩
      | false =>
        rw [key _ hn] at ht
        simp only [Bool.false_eq_true, if_false] at ht
        rw [ht] at ea eb ⊢
        cases hw : (wds (((n : Int)).fdiv (Nat.gcd ((n : Int)).natAbs (1 : Int).natAbs : Nat)) ((1 : Int).fdiv (Nat.gcd ((n : Int)).natAbs (1 : Int).natAbs : Nat)) == z)
        all_goals
          simp only [gt_0, pt_0, gt_1, gt_2, gt_3, gt_4, gt_5, gt_6, gt_7, gt_8, gt_9, pt_1, pt_2, pt_3, pt_4, pt_5, pt_6, pt_7, pt_8, pt_9, co_d, co_fl, frz_d, frz_fl, sqS_eq, sq_nx, sq_rt, sq_bk, sq_ct, sq_ex, skp_eq, rtS_eq, asS_eq, ifS_eq, exS_eq, raS_eq, fin_rt, fin_nx, fin_ex, eC_eq, oV_eq, oVr_some, eV_eq, eVr_some, eM_eq, eMr_some, op1_eq, op2_eq, opn_eq, nilA_eq, consA_eq, tst_eq, tstB_ok, ifE_eq, ifR_t, ifR_f, andT_eq, orT_eq, andR_t, andR_f, orR_f, orR_t, notT_eq, dsO_nil, dsO_cons, tupE_eq, lstE_eq, tupR_some, lstR_some, callE_eq, callR_ok, callR_ex, ar_v, ar_s, refs_nil, refs_v, refs_s, bk_nil, bk_v, bk_s, bk_e, noP_eq, soP_eq, soB_int, smE_eq, smR_str, slE_eq, binA_i, binS_i, cmpE_i, cmpE_s, cmpE_b, cmpN_i, cmpN_s, cmpN_b, cmpI_i, absD_i, maxD_i, intD_i, intD_b, negD_i, lenD_l, lenD_t, ixD_t0, ixD_t1, fzc_eq, upc_eq, ooc_eq, hide_nil, hide_cons, back_nil, back_cons, bk_v1, bk_v2, nmG_eq, yesT_eq, compE_eq, compK_ok, anyS_eq, anyR_some, srO_v, srO_vs, srO_s, srR_fl, srR_d, srR_str, cmpIn_s, cmpNin_s, cm2_eq, cmR_t, cmR_f, andE_eq, orE_eq, notE_eq, andV_t, andV_f, orV_f, orV_t, notV_b, parS_eq, parR_2, callO_v, callO_vv, callO_vvv, callO_s, callO_sv, callO_svv, slD_l, allD_1, allD_2, isN_eq, forS_eq, forR_nil, enumS_eq, enR_some, isiD_str, lkN_s, lkN_v0, lkN_vi, lkR_0, lkR_i, lkR_fl, lkR_l, lkR_ex, beq_tt, beq_tf, beq_ft, beq_ff, siS_eq, siQ_fl, siR_0, siR_2, ixD_l0, ixD_l1, ixD_l2, bitsD_i, rngS1_eq, bd_ok, bd_ex, bs_ok, bs_ex, fz_d, fz_fl, fz_ex, up_ok, up_ex, oo_ok, oo_ex, lk_v, lk_s, lks_nil, lks_cons, ret_some, ret_none, Option.bind_some, Option.map_some, List.length_cons, List.length_nil, if_true, Bool.false_eq_true, if_false, Bool.not_true, Bool.not_false, List.map_cons, List.map_nil, List.cons_append, List.nil_append, List.append_nil, Nat.reduceAdd, Nat.reduceLT, Nat.zero_add, Nat.reduceLeDiff, eq_self, true_and, and_true, hl, z1, cg, cn, hd, z3, Nat.zero_le, slD_s hz', hn, i0, iD1, Int.zero_sub, ea, eb, hw]
          exact ⟨_, rfl⟩
  | [p, q] =>
    have er : fr z = if (dgs p && dgs q && !(q == "0")) = true then frq z (top' z p) (num q) else .none := by unfold fr; rw [hp]
    rw [hp] at cg cn
    rw [er]
    have ha : List.all [p, q] dgs = (dgs p && dgs q) := by simp
    rw [ha] at cn
    have hl : ((List.map PyData.str [p, q]).length : Int) = 2 := rfl
    have i0 : ixD (.list (List.map PyData.str [p, q])) (.int 0) = some (.d (.str p)) := ixD_l rfl
    have i1 : ixD (.list (List.map PyData.str [p, q])) (.int 1) = some (.d (.str q)) := ixD_l rfl
    generalize List.map PyData.str [p, q] = ps at hl i0 i1 cg
    cases hd : dgs p with
    | false =>
      rw [hd] at cn
      simp only [gt_0, pt_0, gt_1, gt_2, gt_3, gt_4, gt_5, gt_6, gt_7, gt_8, gt_9, pt_1, pt_2, pt_3, pt_4, pt_5, pt_6, pt_7, pt_8, pt_9, co_d, co_fl, frz_d, frz_fl, sqS_eq, sq_nx, sq_rt, sq_bk, sq_ct, sq_ex, skp_eq, rtS_eq, asS_eq, ifS_eq, exS_eq, raS_eq, fin_rt, fin_nx, fin_ex, eC_eq, oV_eq, oVr_some, eV_eq, eVr_some, eM_eq, eMr_some, op1_eq, op2_eq, opn_eq, nilA_eq, consA_eq, tst_eq, tstB_ok, ifE_eq, ifR_t, ifR_f, andT_eq, orT_eq, andR_t, andR_f, orR_f, orR_t, notT_eq, dsO_nil, dsO_cons, tupE_eq, lstE_eq, tupR_some, lstR_some, callE_eq, callR_ok, callR_ex, ar_v, ar_s, refs_nil, refs_v, refs_s, bk_nil, bk_v, bk_s, bk_e, noP_eq, soP_eq, soB_int, smE_eq, smR_str, slE_eq, binA_i, binS_i, cmpE_i, cmpE_s, cmpE_b, cmpN_i, cmpN_s, cmpN_b, cmpI_i, absD_i, maxD_i, intD_i, intD_b, negD_i, lenD_l, lenD_t, ixD_t0, ixD_t1, fzc_eq, upc_eq, ooc_eq, hide_nil, hide_cons, back_nil, back_cons, bk_v1, bk_v2, nmG_eq, yesT_eq, compE_eq, compK_ok, anyS_eq, anyR_some, srO_v, srO_vs, srO_s, srR_fl, srR_d, srR_str, cmpIn_s, cmpNin_s, cm2_eq, cmR_t, cmR_f, andE_eq, orE_eq, notE_eq, andV_t, andV_f, orV_f, orV_t, notV_b, parS_eq, parR_2, callO_v, callO_vv, callO_vvv, callO_s, callO_sv, callO_svv, slD_l, allD_1, allD_2, isN_eq, forS_eq, forR_nil, enumS_eq, enR_some, isiD_str, lkN_s, lkN_v0, lkN_vi, lkR_0, lkR_i, lkR_fl, lkR_l, lkR_ex, beq_tt, beq_tf, beq_ft, beq_ff, siS_eq, siQ_fl, siR_0, siR_2, ixD_l0, ixD_l1, ixD_l2, bitsD_i, rngS1_eq, bd_ok, bd_ex, bs_ok, bs_ex, fz_d, fz_fl, fz_ex, up_ok, up_ex, oo_ok, oo_ex, lk_v, lk_s, lks_nil, lks_cons, ret_some, ret_none, Option.bind_some, Option.map_some, List.length_cons, List.length_nil, if_true, Bool.false_eq_true, if_false, Bool.not_true, Bool.not_false, List.map_cons, List.map_nil, List.cons_append, List.nil_append, List.append_nil, Nat.reduceAdd, Nat.reduceLT, Nat.zero_add, Nat.reduceLeDiff, eq_self, true_and, and_true, hl, z2, cg, cn, hd, Bool.false_and, Nat.zero_le]
      exact ⟨_, rfl⟩
    | true =>
      cases hd2 : dgs q with
      | false =>
        rw [hd, hd2] at cn
        simp only [gt_0, pt_0, gt_1, gt_2, gt_3, gt_4, gt_5, gt_6, gt_7, gt_8, gt_9, pt_1, pt_2, pt_3, pt_4, pt_5, pt_6, pt_7, pt_8, pt_9, co_d, co_fl, frz_d, frz_fl, sqS_eq, sq_nx, sq_rt, sq_bk, sq_ct, sq_ex, skp_eq, rtS_eq, asS_eq, ifS_eq, exS_eq, raS_eq, fin_rt, fin_nx, fin_ex, eC_eq, oV_eq, oVr_some, eV_eq, eVr_some, eM_eq, eMr_some, op1_eq, op2_eq, opn_eq, nilA_eq, consA_eq, tst_eq, tstB_ok, ifE_eq, ifR_t, ifR_f, andT_eq, orT_eq, andR_t, andR_f, orR_f, orR_t, notT_eq, dsO_nil, dsO_cons, tupE_eq, lstE_eq, tupR_some, lstR_some, callE_eq, callR_ok, callR_ex, ar_v, ar_s, refs_nil, refs_v, refs_s, bk_nil, bk_v, bk_s, bk_e, noP_eq, soP_eq, soB_int, smE_eq, smR_str, slE_eq, binA_i, binS_i, cmpE_i, cmpE_s, cmpE_b, cmpN_i, cmpN_s, cmpN_b, cmpI_i, absD_i, maxD_i, intD_i, intD_b, negD_i, lenD_l, lenD_t, ixD_t0, ixD_t1, fzc_eq, upc_eq, ooc_eq, hide_nil, hide_cons, back_nil, back_cons, bk_v1, bk_v2, nmG_eq, yesT_eq, compE_eq, compK_ok, anyS_eq, anyR_some, srO_v, srO_vs, srO_s, srR_fl, srR_d, srR_str, cmpIn_s, cmpNin_s, cm2_eq, cmR_t, cmR_f, andE_eq, orE_eq, notE_eq, andV_t, andV_f, orV_f, orV_t, notV_b, parS_eq, parR_2, callO_v, callO_vv, callO_vvv, callO_s, callO_sv, callO_svv, slD_l, allD_1, allD_2, isN_eq, forS_eq, forR_nil, enumS_eq, enR_some, isiD_str, lkN_s, lkN_v0, lkN_vi, lkR_0, lkR_i, lkR_fl, lkR_l, lkR_ex, beq_tt, beq_tf, beq_ft, beq_ff, siS_eq, siQ_fl, siR_0, siR_2, ixD_l0, ixD_l1, ixD_l2, bitsD_i, rngS1_eq, bd_ok, bd_ex, bs_ok, bs_ex, fz_d, fz_fl, fz_ex, up_ok, up_ex, oo_ok, oo_ex, lk_v, lk_s, lks_nil, lks_cons, ret_some, ret_none, Option.bind_some, Option.map_some, List.length_cons, List.length_nil, if_true, Bool.false_eq_true, if_false, Bool.not_true, Bool.not_false, List.map_cons, List.map_nil, List.cons_append, List.nil_append, List.append_nil, Nat.reduceAdd, Nat.reduceLT, Nat.zero_add, Nat.reduceLeDiff, eq_self, true_and, and_true, hl, z2, cg, cn, hd, hd2, Bool.false_and, Bool.and_false, Nat.zero_le]
        exact ⟨_, rfl⟩
      | true =>
        rw [hd, hd2] at cn
        cases h0 : (q == ("0" : Str)) with
        | true =>
          simp only [gt_0, pt_0, gt_1, gt_2, gt_3, gt_4, gt_5, gt_6, gt_7, gt_8, gt_9, pt_1, pt_2, pt_3, pt_4, pt_5, pt_6, pt_7, pt_8, pt_9, co_d, co_fl, frz_d, frz_fl, sqS_eq, sq_nx, sq_rt, sq_bk, sq_ct, sq_ex, skp_eq, rtS_eq, asS_eq, ifS_eq, exS_eq, raS_eq, fin_rt, fin_nx, fin_ex, eC_eq, oV_eq, oVr_some, eV_eq, eVr_some, eM_eq, eMr_some, op1_eq, op2_eq, opn_eq, nilA_eq, consA_eq, tst_eq, tstB_ok, ifE_eq, ifR_t, ifR_f, andT_eq, orT_eq, andR_t, andR_f, orR_f, orR_t, notT_eq, dsO_nil, dsO_cons, tupE_eq, lstE_eq, tupR_some, lstR_some, callE_eq, callR_ok, callR_ex, ar_v, ar_s, refs_nil, refs_v, refs_s, bk_nil, bk_v, bk_s, bk_e, noP_eq, soP_eq, soB_int, smE_eq, smR_str, slE_eq, binA_i, binS_i, cmpE_i, cmpE_s, cmpE_b, cmpN_i, cmpN_s, cmpN_b, cmpI_i, absD_i, maxD_i, intD_i, intD_b, negD_i, lenD_l, lenD_t, ixD_t0, ixD_t1, fzc_eq, upc_eq, ooc_eq, hide_nil, hide_cons, back_nil, back_cons, bk_v1, bk_v2, nmG_eq, yesT_eq, compE_eq, compK_ok, anyS_eq, anyR_some, srO_v, srO_vs, srO_s, srR_fl, srR_d, srR_str, cmpIn_s, cmpNin_s, cm2_eq, cmR_t, cmR_f, andE_eq, orE_eq, notE_eq, andV_t, andV_f, orV_f, orV_t, notV_b, parS_eq, parR_2, callO_v, callO_vv, callO_vvv, callO_s, callO_sv, callO_svv, slD_l, allD_1, allD_2, isN_eq, forS_eq, forR_nil, enumS_eq, enR_some, isiD_str, lkN_s, lkN_v0, lkN_vi, lkR_0, lkR_i, lkR_fl, lkR_l, lkR_ex, beq_tt, beq_tf, beq_ft, beq_ff, siS_eq, siQ_fl, siR_0, siR_2, ixD_l0, ixD_l1, ixD_l2, bitsD_i, rngS1_eq, bd_ok, bd_ex, bs_ok, bs_ex, fz_d, fz_fl, fz_ex, up_ok, up_ex, oo_ok, oo_ex, lk_v, lk_s, lks_nil, lks_cons, ret_some, ret_none, Option.bind_some, Option.map_some, List.length_cons, List.length_nil, if_true, Bool.false_eq_true, if_false, Bool.not_true, Bool.not_false, List.map_cons, List.map_nil, List.cons_append, List.nil_append, List.append_nil, Nat.reduceAdd, Nat.reduceLT, Nat.zero_add, Nat.reduceLeDiff, eq_self, true_and, and_true, hl, z2, cg, cn, hd, hd2, h0, i1, z4, Bool.and_false, Bool.and_self, Nat.zero_le]
          exact ⟨_, rfl⟩
        | false =>
          obtain ⟨n, n1, n2, n3, n4⟩ := dgs_num hd
          obtain ⟨m, m1, m2, m3, m4⟩ := dgs_num hd2
          have m5 := m3 h0
          have iD1 := intD_s (by omega) n1
          have iD2 := intD_s (by omega) m1
          obtain ⟨ρa, ea⟩ := e_law_lowest (top' z p) m (by omega) (by omega)
          have t1 : (top' z p).natAbs < 10 ^ 10 := by
            unfold top'
            rw [num_of n1]
            split <;> omega
          obtain ⟨ρb, eb⟩ := e_lw_low (top' z p) m t1 (by omega)
          have ht : top' z p = if neg z = true then -(n : Int) else (n : Int) := by unfold top'; rw [num_of n1]
          have key : ∀ b : Bool, (cutS z none (some 1) == ("-" : Str)) = b → neg z = b := fun b h => h
          rw [num_of m1]
          unfold frq
          cases hn : (cutS z none (some 1) == ("-" : Str)) with
          | true =>
            rw [key _ hn, if_pos rfl] at ht
            rw [ht] at ea eb ⊢
            cases hw : (wds ((-(n : Int)).fdiv (Nat.gcd (-(n : Int)).natAbs (m : Int).natAbs : Nat)) ((m : Int).fdiv (Nat.gcd (-(n : Int)).natAbs (m : Int).natAbs : Nat)) == z)
            all_goals
              simp only [gt_0, pt_0, gt_1, gt_2, gt_3, gt_4, gt_5, gt_6, gt_7, gt_8, gt_9, pt_1, pt_2, pt_3, pt_4, pt_5, pt_6, pt_7, pt_8, pt_9, co_d, co_fl, frz_d, frz_fl, sqS_eq, sq_nx, sq_rt, sq_bk, sq_ct, sq_ex, skp_eq, rtS_eq, asS_eq, ifS_eq, exS_eq, raS_eq, fin_rt, fin_nx, fin_ex, eC_eq, oV_eq, oVr_some, eV_eq, eVr_some, eM_eq, eMr_some, op1_eq, op2_eq, opn_eq, nilA_eq, consA_eq, tst_eq, tstB_ok, ifE_eq, ifR_t, ifR_f, andT_eq, orT_eq, andR_t, andR_f, orR_f, orR_t, notT_eq, dsO_nil, dsO_cons, tupE_eq, lstE_eq, tupR_some, lstR_some, callE_eq, callR_ok, callR_ex, ar_v, ar_s, refs_nil, refs_v, refs_s, bk_nil, bk_v, bk_s, bk_e, noP_eq, soP_eq, soB_int, smE_eq, smR_str, slE_eq, binA_i, binS_i, cmpE_i, cmpE_s, cmpE_b, cmpN_i, cmpN_s, cmpN_b, cmpI_i, absD_i, maxD_i, intD_i, intD_b, negD_i, lenD_l, lenD_t, ixD_t0, ixD_t1, fzc_eq, upc_eq, ooc_eq, hide_nil, hide_cons, back_nil, back_cons, bk_v1, bk_v2, nmG_eq, yesT_eq, compE_eq, compK_ok, anyS_eq, anyR_some, srO_v, srO_vs, srO_s, srR_fl, srR_d, srR_str, cmpIn_s, cmpNin_s, cm2_eq, cmR_t, cmR_f, andE_eq, orE_eq, notE_eq, andV_t, andV_f, orV_f, orV_t, notV_b, parS_eq, parR_2, callO_v, callO_vv, callO_vvv, callO_s, callO_sv, callO_svv, slD_l, allD_1, allD_2, isN_eq, forS_eq, forR_nil, enumS_eq, enR_some, isiD_str, lkN_s, lkN_v0, lkN_vi, lkR_0, lkR_i, lkR_fl, lkR_l, lkR_ex, beq_tt, beq_tf, beq_ft, beq_ff, siS_eq, siQ_fl, siR_0, siR_2, ixD_l0, ixD_l1, ixD_l2, bitsD_i, rngS1_eq, bd_ok, bd_ex, bs_ok, bs_ex, fz_d, fz_fl, fz_ex, up_ok, up_ex, oo_ok, oo_ex, lk_v, lk_s, lks_nil, lks_cons, ret_some, ret_none, Option.bind_some, Option.map_some, List.length_cons, List.length_nil, if_true, Bool.false_eq_true, if_false, Bool.not_true, Bool.not_false, List.map_cons, List.map_nil, List.cons_append, List.nil_append, List.append_nil, Nat.reduceAdd, Nat.reduceLT, Nat.zero_add, Nat.reduceLeDiff, eq_self, true_and, and_true, hl, z2, cg, cn, hd, hd2, h0, z4, Bool.and_self, Nat.zero_le, slD_s hz', hn, i0, i1, iD1, iD2, Int.zero_sub, ea, eb, hw]
              exact ⟨_, rfl⟩
          | false =>
            rw [key _ hn] at ht
            simp only [Bool.false_eq_true, if_false] at ht
            rw [ht] at ea eb ⊢
            cases hw : (wds (((n : Int)).fdiv (Nat.gcd ((n : Int)).natAbs (m : Int).natAbs : Nat)) ((m : Int).fdiv (Nat.gcd ((n : Int)).natAbs (m : Int).natAbs : Nat)) == z)
            all_goals
              simp only [gt_0, pt_0, gt_1, gt_2, gt_3, gt_4, gt_5, gt_6, gt_7, gt_8, gt_9, pt_1, pt_2, pt_3, pt_4, pt_5, pt_6, pt_7, pt_8, pt_9, co_d, co_fl, frz_d, frz_fl, sqS_eq, sq_nx, sq_rt, sq_bk, sq_ct, sq_ex, skp_eq, rtS_eq, asS_eq, ifS_eq, exS_eq, raS_eq, fin_rt, fin_nx, fin_ex, eC_eq, oV_eq, oVr_some, eV_eq, eVr_some, eM_eq, eMr_some, op1_eq, op2_eq, opn_eq, nilA_eq, consA_eq, tst_eq, tstB_ok, ifE_eq, ifR_t, ifR_f, andT_eq, orT_eq, andR_t, andR_f, orR_f, orR_t, notT_eq, dsO_nil, dsO_cons, tupE_eq, lstE_eq, tupR_some, lstR_some, callE_eq, callR_ok, callR_ex, ar_v, ar_s, refs_nil, refs_v, refs_s, bk_nil, bk_v, bk_s, bk_e, noP_eq, soP_eq, soB_int, smE_eq, smR_str, slE_eq, binA_i, binS_i, cmpE_i, cmpE_s, cmpE_b, cmpN_i, cmpN_s, cmpN_b, cmpI_i, absD_i, maxD_i, intD_i, intD_b, negD_i, lenD_l, lenD_t, ixD_t0, ixD_t1, fzc_eq, upc_eq, ooc_eq, hide_nil, hide_cons, back_nil, back_cons, bk_v1, bk_v2, nmG_eq, yesT_eq, compE_eq, compK_ok, anyS_eq, anyR_some, srO_v, srO_vs, srO_s, srR_fl, srR_d, srR_str, cmpIn_s, cmpNin_s, cm2_eq, cmR_t, cmR_f, andE_eq, orE_eq, notE_eq, andV_t, andV_f, orV_f, orV_t, notV_b, parS_eq, parR_2, callO_v, callO_vv, callO_vvv, callO_s, callO_sv, callO_svv, slD_l, allD_1, allD_2, isN_eq, forS_eq, forR_nil, enumS_eq, enR_some, isiD_str, lkN_s, lkN_v0, lkN_vi, lkR_0, lkR_i, lkR_fl, lkR_l, lkR_ex, beq_tt, beq_tf, beq_ft, beq_ff, siS_eq, siQ_fl, siR_0, siR_2, ixD_l0, ixD_l1, ixD_l2, bitsD_i, rngS1_eq, bd_ok, bd_ex, bs_ok, bs_ex, fz_d, fz_fl, fz_ex, up_ok, up_ex, oo_ok, oo_ex, lk_v, lk_s, lks_nil, lks_cons, ret_some, ret_none, Option.bind_some, Option.map_some, List.length_cons, List.length_nil, if_true, Bool.false_eq_true, if_false, Bool.not_true, Bool.not_false, List.map_cons, List.map_nil, List.cons_append, List.nil_append, List.append_nil, Nat.reduceAdd, Nat.reduceLT, Nat.zero_add, Nat.reduceLeDiff, eq_self, true_and, and_true, hl, z2, cg, cn, hd, hd2, h0, z4, Bool.and_self, Nat.zero_le, slD_s hz', hn, i0, i1, iD1, iD2, Int.zero_sub, ea, eb, hw]
              exact ⟨_, rfl⟩
  | p :: q :: r :: l =>
    have er : fr z = .none := by unfold fr; rw [hp]
    rw [er]
    have hl : decide ((2 : Int) < ((List.map PyData.str (p :: q :: r :: l)).length : Int)) = true := by simp; omega
    generalize List.map PyData.str (p :: q :: r :: l) = ps at hl
    simp only [gt_0, pt_0, gt_1, gt_2, gt_3, gt_4, gt_5, gt_6, gt_7, gt_8, gt_9, pt_1, pt_2, pt_3, pt_4, pt_5, pt_6, pt_7, pt_8, pt_9, co_d, co_fl, frz_d, frz_fl, sqS_eq, sq_nx, sq_rt, sq_bk, sq_ct, sq_ex, skp_eq, rtS_eq, asS_eq, ifS_eq, exS_eq, raS_eq, fin_rt, fin_nx, fin_ex, eC_eq, oV_eq, oVr_some, eV_eq, eVr_some, eM_eq, eMr_some, op1_eq, op2_eq, opn_eq, nilA_eq, consA_eq, tst_eq, tstB_ok, ifE_eq, ifR_t, ifR_f, andT_eq, orT_eq, andR_t, andR_f, orR_f, orR_t, notT_eq, dsO_nil, dsO_cons, tupE_eq, lstE_eq, tupR_some, lstR_some, callE_eq, callR_ok, callR_ex, ar_v, ar_s, refs_nil, refs_v, refs_s, bk_nil, bk_v, bk_s, bk_e, noP_eq, soP_eq, soB_int, smE_eq, smR_str, slE_eq, binA_i, binS_i, cmpE_i, cmpE_s, cmpE_b, cmpN_i, cmpN_s, cmpN_b, cmpI_i, absD_i, maxD_i, intD_i, intD_b, negD_i, lenD_l, lenD_t, ixD_t0, ixD_t1, fzc_eq, upc_eq, ooc_eq, hide_nil, hide_cons, back_nil, back_cons, bk_v1, bk_v2, nmG_eq, yesT_eq, compE_eq, compK_ok, anyS_eq, anyR_some, srO_v, srO_vs, srO_s, srR_fl, srR_d, srR_str, cmpIn_s, cmpNin_s, cm2_eq, cmR_t, cmR_f, andE_eq, orE_eq, notE_eq, andV_t, andV_f, orV_f, orV_t, notV_b, parS_eq, parR_2, callO_v, callO_vv, callO_vvv, callO_s, callO_sv, callO_svv, slD_l, allD_1, allD_2, isN_eq, forS_eq, forR_nil, enumS_eq, enR_some, isiD_str, lkN_s, lkN_v0, lkN_vi, lkR_0, lkR_i, lkR_fl, lkR_l, lkR_ex, beq_tt, beq_tf, beq_ft, beq_ff, siS_eq, siQ_fl, siR_0, siR_2, ixD_l0, ixD_l1, ixD_l2, bitsD_i, rngS1_eq, bd_ok, bd_ex, bs_ok, bs_ex, fz_d, fz_fl, fz_ex, up_ok, up_ex, oo_ok, oo_ex, lk_v, lk_s, lks_nil, lks_cons, ret_some, ret_none, Option.bind_some, Option.map_some, List.length_cons, List.length_nil, if_true, Bool.false_eq_true, if_false, Bool.not_true, Bool.not_false, List.map_cons, List.map_nil, List.cons_append, List.nil_append, List.append_nil, Nat.reduceAdd, Nat.reduceLT, Nat.zero_add, Nat.reduceLeDiff, eq_self, true_and, and_true, hl]
    exact ⟨_, rfl⟩
/-! rows -/
def sp1 (z : Str) : List Str := Txt.split z " "
def rws (z : Str) : List PyData := (sp1 z).map fr
def isNn : PyData → Bool
  | .none => true
  | _ => false
def bad (z : Str) : Bool := (rws z).any isNn
theorem fr_flat (z : Str) : (fr z).canLay0 = true ∧ (fr z).depth ≤ 3 ∧ PyData.eqv (fr z) .none = isNn (fr z) := by
  have hf : ∀ t u : Int, (frq z t u).canLay0 = true ∧ (frq z t u).depth ≤ 3 ∧ PyData.eqv (frq z t u) .none = isNn (frq z t u) := fun t u => by
    unfold frq
    split
    · unfold low
      refine ⟨by simp [PyData.canLay0, PyData.canLayAll0], by simp [PyData.depth, PyData.depthAll], by simp [PyData.eqv, isNn]⟩
    · exact ⟨by simp [PyData.canLay0], by simp [PyData.depth], by simp [PyData.eqv, isNn]⟩
  have hn : (PyData.none).canLay0 = true ∧ (PyData.none).depth ≤ 3 ∧ PyData.eqv .none .none = isNn .none := ⟨by simp [PyData.canLay0], by simp [PyData.depth], by simp [PyData.eqv, isNn]⟩
  unfold fr
  split
  · split
    · exact hf _ _
    · exact hn
  · split
    · exact hf _ _
    · exact hn
  · exact hn
theorem in_none (z : Str) : cmpIn false .none (.list (rws z)) = some (.d (.bool (bad z))) := by
  have h1 : SeqAt.shaped .none = true := by unfold SeqAt.shaped; simp [PyData.canLay0, PyData.depth]
  have h2 : SeqAt.shaped (.list (rws z)) = true := shaped_list (n := 3) (by decide) fun x hx => by
    obtain ⟨p, _, rfl⟩ := List.mem_map.mp hx
    exact ⟨(fr_flat p).1, (fr_flat p).2.1⟩
  have h3 : (rws z).any (fun y => PyData.eqv y .none) = bad z := by
    unfold bad rws
    rw [List.any_map, List.any_map]
    congr 1
    funext p
    exact (fr_flat p).2.2
  show (if SeqAt.shaped .none && SeqAt.shaped (.list (rws z)) then bo (if false = true then !((rws z).any fun y => PyData.eqv y .none) else (rws z).any fun y => PyData.eqv y .none) else none) = _
  rw [h1, h2, h3]
  rfl
theorem sp1_len {z p : Str} (hz : z.length ≤ B0) (h : p ∈ sp1 z) : p.length ≤ B0 := Nat.le_trans (len_split (by decide) h) hz
theorem sp1_cnt {z : Str} (hz : z.length ≤ B0) : (sp1 z).length ≤ 16777216 := by
  have h1 : (sp1 z).length ≤ z.length + 1 := cnt_split (by decide)
  unfold B0 at hz
  omega
theorem e_row_told (z : Str) (hz : z.length ≤ B0) : ∃ ρ, f_row_told [some (.d (.str z))] = .ok (if (bad z || decide (8 < (rws z).length)) = true then .d .none else .fl (rws z)) ρ := by
  rw [show f_row_told [some (.d (.str z))] = finR 1 [1] (s_row_told [some (.d (.str z)), none, none]) from bodyR_eq ..]
  unfold s_row_told
  have hz' : z.length + 2 ≤ 16777216 := by unfold B0 at hz; omega
  have hy : ((" " : Str).length == 0) = false := by decide
  have cg : compGo ([2] ++ []) (nmG 2) yesT (fzc (callE 1 f_fraction_told (consA (ooc (eV 2)) nilA))) ((sp1 z).map PyData.str) (hide ([2] ++ []) [some (.d (.str z)), none, none]) = some (rws z, [some (.d (.str z)), none, none]) := by
    rw [show hide ([2] ++ []) [some (W.d (.str z)), none, none] = [some (W.d (.str z)), none, none] from rfl]
    rw [compGo_map _ (fun x => match x with | .str w => fr w | _ => .none)]
    · rw [List.map_map]
      rfl
    · intro x hx
      obtain ⟨p, hp, rfl⟩ := List.mem_map.mp hx
      obtain ⟨ρ, e⟩ := e_fraction_told p (sp1_len hz hp)
      refine ⟨[some (.d (.str z)), none, some (.d (.str p))], _, [some (.d (.str z)), none, some (.d (.str p))], by simp only [gt_0, pt_0, gt_1, gt_2, gt_3, gt_4, gt_5, gt_6, gt_7, gt_8, gt_9, pt_1, pt_2, pt_3, pt_4, pt_5, pt_6, pt_7, pt_8, pt_9, co_d, co_fl, frz_d, frz_fl, sqS_eq, sq_nx, sq_rt, sq_bk, sq_ct, sq_ex, skp_eq, rtS_eq, asS_eq, ifS_eq, exS_eq, raS_eq, fin_rt, fin_nx, fin_ex, eC_eq, oV_eq, oVr_some, eV_eq, eVr_some, eM_eq, eMr_some, op1_eq, op2_eq, opn_eq, nilA_eq, consA_eq, tst_eq, tstB_ok, ifE_eq, ifR_t, ifR_f, andT_eq, orT_eq, andR_t, andR_f, orR_f, orR_t, notT_eq, dsO_nil, dsO_cons, tupE_eq, lstE_eq, tupR_some, lstR_some, callE_eq, callR_ok, callR_ex, ar_v, ar_s, refs_nil, refs_v, refs_s, bk_nil, bk_v, bk_s, bk_e, noP_eq, soP_eq, soB_int, smE_eq, smR_str, slE_eq, binA_i, binS_i, cmpE_i, cmpE_s, cmpE_b, cmpN_i, cmpN_s, cmpN_b, cmpI_i, absD_i, maxD_i, intD_i, intD_b, negD_i, lenD_l, lenD_t, ixD_t0, ixD_t1, fzc_eq, upc_eq, ooc_eq, hide_nil, hide_cons, back_nil, back_cons, bk_v1, bk_v2, nmG_eq, yesT_eq, compE_eq, compK_ok, anyS_eq, anyR_some, srO_v, srO_vs, srO_s, srR_fl, srR_d, srR_str, cmpIn_s, cmpNin_s, cm2_eq, cmR_t, cmR_f, andE_eq, orE_eq, notE_eq, andV_t, andV_f, orV_f, orV_t, notV_b, parS_eq, parR_2, callO_v, callO_vv, callO_vvv, callO_s, callO_sv, callO_svv, slD_l, allD_1, allD_2, isN_eq, forS_eq, forR_nil, enumS_eq, enR_some, isiD_str, lkN_s, lkN_v0, lkN_vi, lkR_0, lkR_i, lkR_fl, lkR_l, lkR_ex, beq_tt, beq_tf, beq_ft, beq_ff, siS_eq, siQ_fl, siR_0, siR_2, ixD_l0, ixD_l1, ixD_l2, bitsD_i, rngS1_eq, bd_ok, bd_ex, bs_ok, bs_ex, fz_d, fz_fl, fz_ex, up_ok, up_ex, oo_ok, oo_ex, lk_v, lk_s, lks_nil, lks_cons, ret_some, ret_none, Option.bind_some, Option.map_some, List.length_cons, List.length_nil, if_true, Bool.false_eq_true, if_false, Bool.not_true, Bool.not_false, List.map_cons, List.map_nil, List.cons_append, List.nil_append, List.append_nil, Nat.reduceAdd, Nat.reduceLT, Nat.zero_add, Nat.reduceLeDiff, eq_self, true_and, and_true], rfl, ?_, rfl⟩
      simp only [gt_0, pt_0, gt_1, gt_2, gt_3, gt_4, gt_5, gt_6, gt_7, gt_8, gt_9, pt_1, pt_2, pt_3, pt_4, pt_5, pt_6, pt_7, pt_8, pt_9, co_d, co_fl, frz_d, frz_fl, sqS_eq, sq_nx, sq_rt, sq_bk, sq_ct, sq_ex, skp_eq, rtS_eq, asS_eq, ifS_eq, exS_eq, raS_eq, fin_rt, fin_nx, fin_ex, eC_eq, oV_eq, oVr_some, eV_eq, eVr_some, eM_eq, eMr_some, op1_eq, op2_eq, opn_eq, nilA_eq, consA_eq, tst_eq, tstB_ok, ifE_eq, ifR_t, ifR_f, andT_eq, orT_eq, andR_t, andR_f, orR_f, orR_t, notT_eq, dsO_nil, dsO_cons, tupE_eq, lstE_eq, tupR_some, lstR_some, callE_eq, callR_ok, callR_ex, ar_v, ar_s, refs_nil, refs_v, refs_s, bk_nil, bk_v, bk_s, bk_e, noP_eq, soP_eq, soB_int, smE_eq, smR_str, slE_eq, binA_i, binS_i, cmpE_i, cmpE_s, cmpE_b, cmpN_i, cmpN_s, cmpN_b, cmpI_i, absD_i, maxD_i, intD_i, intD_b, negD_i, lenD_l, lenD_t, ixD_t0, ixD_t1, fzc_eq, upc_eq, ooc_eq, hide_nil, hide_cons, back_nil, back_cons, bk_v1, bk_v2, nmG_eq, yesT_eq, compE_eq, compK_ok, anyS_eq, anyR_some, srO_v, srO_vs, srO_s, srR_fl, srR_d, srR_str, cmpIn_s, cmpNin_s, cm2_eq, cmR_t, cmR_f, andE_eq, orE_eq, notE_eq, andV_t, andV_f, orV_f, orV_t, notV_b, parS_eq, parR_2, callO_v, callO_vv, callO_vvv, callO_s, callO_sv, callO_svv, slD_l, allD_1, allD_2, isN_eq, forS_eq, forR_nil, enumS_eq, enR_some, isiD_str, lkN_s, lkN_v0, lkN_vi, lkR_0, lkR_i, lkR_fl, lkR_l, lkR_ex, beq_tt, beq_tf, beq_ft, beq_ff, siS_eq, siQ_fl, siR_0, siR_2, ixD_l0, ixD_l1, ixD_l2, bitsD_i, rngS1_eq, bd_ok, bd_ex, bs_ok, bs_ex, fz_d, fz_fl, fz_ex, up_ok, up_ex, oo_ok, oo_ex, lk_v, lk_s, lks_nil, lks_cons, ret_some, ret_none, Option.bind_some, Option.map_some, List.length_cons, List.length_nil, if_true, Bool.false_eq_true, if_false, Bool.not_true, Bool.not_false, List.map_cons, List.map_nil, List.cons_append, List.nil_append, List.append_nil, Nat.reduceAdd, Nat.reduceLT, Nat.zero_add, Nat.reduceLeDiff, eq_self, true_and, and_true, e]
  have hc : ((sp1 z).map PyData.str).length ≤ 16777216 := by rw [List.length_map]; exact sp1_cnt hz
  have cg := compR_ok hc cg
  rw [show back ([2] ++ []) [some (W.d (.str z)), none, none] [some (W.d (.str z)), none, none] = [some (W.d (.str z)), none, none] from rfl] at cg
  have hsp : Txt.split z " " = sp1 z := rfl
  have h8 : decide ((8 : Int) < ((rws z).length : Int)) = decide (8 < (rws z).length) := by
    rw [Bool.eq_iff_iff]
    simp
    omega
  cases hb : bad z with
  | true =>
    have hi := in_none z
    rw [hb] at hi
    simp only [gt_0, pt_0, gt_1, gt_2, gt_3, gt_4, gt_5, gt_6, gt_7, gt_8, gt_9, pt_1, pt_2, pt_3, pt_4, pt_5, pt_6, pt_7, pt_8, pt_9, co_d, co_fl, frz_d, frz_fl, sqS_eq, sq_nx, sq_rt, sq_bk, sq_ct, sq_ex, skp_eq, rtS_eq, asS_eq, ifS_eq, exS_eq, raS_eq, fin_rt, fin_nx, fin_ex, eC_eq, oV_eq, oVr_some, eV_eq, eVr_some, eM_eq, eMr_some, op1_eq, op2_eq, opn_eq, nilA_eq, consA_eq, tst_eq, tstB_ok, ifE_eq, ifR_t, ifR_f, andT_eq, orT_eq, andR_t, andR_f, orR_f, orR_t, notT_eq, dsO_nil, dsO_cons, tupE_eq, lstE_eq, tupR_some, lstR_some, callE_eq, callR_ok, callR_ex, ar_v, ar_s, refs_nil, refs_v, refs_s, bk_nil, bk_v, bk_s, bk_e, noP_eq, soP_eq, soB_int, smE_eq, smR_str, slE_eq, binA_i, binS_i, cmpE_i, cmpE_s, cmpE_b, cmpN_i, cmpN_s, cmpN_b, cmpI_i, absD_i, maxD_i, intD_i, intD_b, negD_i, lenD_l, lenD_t, ixD_t0, ixD_t1, fzc_eq, upc_eq, ooc_eq, hide_nil, hide_cons, back_nil, back_cons, bk_v1, bk_v2, nmG_eq, yesT_eq, compE_eq, compK_ok, anyS_eq, anyR_some, srO_v, srO_vs, srO_s, srR_fl, srR_d, srR_str, cmpIn_s, cmpNin_s, cm2_eq, cmR_t, cmR_f, andE_eq, orE_eq, notE_eq, andV_t, andV_f, orV_f, orV_t, notV_b, parS_eq, parR_2, callO_v, callO_vv, callO_vvv, callO_s, callO_sv, callO_svv, slD_l, allD_1, allD_2, isN_eq, forS_eq, forR_nil, enumS_eq, enR_some, isiD_str, lkN_s, lkN_v0, lkN_vi, lkR_0, lkR_i, lkR_fl, lkR_l, lkR_ex, beq_tt, beq_tf, beq_ft, beq_ff, siS_eq, siQ_fl, siR_0, siR_2, ixD_l0, ixD_l1, ixD_l2, bitsD_i, rngS1_eq, bd_ok, bd_ex, bs_ok, bs_ex, fz_d, fz_fl, fz_ex, up_ok, up_ex, oo_ok, oo_ex, lk_v, lk_s, lks_nil, lks_cons, ret_some, ret_none, Option.bind_some, Option.map_some, List.length_cons, List.length_nil, if_true, Bool.false_eq_true, if_false, Bool.not_true, Bool.not_false, List.map_cons, List.map_nil, List.cons_append, List.nil_append, List.append_nil, Nat.reduceAdd, Nat.reduceLT, Nat.zero_add, Nat.reduceLeDiff, eq_self, true_and, and_true, splitD_s hy hz', hsp, cg, hi, Bool.true_or]
    exact ⟨_, rfl⟩
  | false =>
    have hi := in_none z
    rw [hb] at hi
    cases h9 : decide (8 < (rws z).length)
    all_goals
      simp only [gt_0, pt_0, gt_1, gt_2, gt_3, gt_4, gt_5, gt_6, gt_7, gt_8, gt_9, pt_1, pt_2, pt_3, pt_4, pt_5, pt_6, pt_7, pt_8, pt_9, co_d, co_fl, frz_d, frz_fl, sqS_eq, sq_nx, sq_rt, sq_bk, sq_ct, sq_ex, skp_eq, rtS_eq, asS_eq, ifS_eq, exS_eq, raS_eq, fin_rt, fin_nx, fin_ex, eC_eq, oV_eq, oVr_some, eV_eq, eVr_some, eM_eq, eMr_some, op1_eq, op2_eq, opn_eq, nilA_eq, consA_eq, tst_eq, tstB_ok, ifE_eq, ifR_t, ifR_f, andT_eq, orT_eq, andR_t, andR_f, orR_f, orR_t, notT_eq, dsO_nil, dsO_cons, tupE_eq, lstE_eq, tupR_some, lstR_some, callE_eq, callR_ok, callR_ex, ar_v, ar_s, refs_nil, refs_v, refs_s, bk_nil, bk_v, bk_s, bk_e, noP_eq, soP_eq, soB_int, smE_eq, smR_str, slE_eq, binA_i, binS_i, cmpE_i, cmpE_s, cmpE_b, cmpN_i, cmpN_s, cmpN_b, cmpI_i, absD_i, maxD_i, intD_i, intD_b, negD_i, lenD_l, lenD_t, ixD_t0, ixD_t1, fzc_eq, upc_eq, ooc_eq, hide_nil, hide_cons, back_nil, back_cons, bk_v1, bk_v2, nmG_eq, yesT_eq, compE_eq, compK_ok, anyS_eq, anyR_some, srO_v, srO_vs, srO_s, srR_fl, srR_d, srR_str, cmpIn_s, cmpNin_s, cm2_eq, cmR_t, cmR_f, andE_eq, orE_eq, notE_eq, andV_t, andV_f, orV_f, orV_t, notV_b, parS_eq, parR_2, callO_v, callO_vv, callO_vvv, callO_s, callO_sv, callO_svv, slD_l, allD_1, allD_2, isN_eq, forS_eq, forR_nil, enumS_eq, enR_some, isiD_str, lkN_s, lkN_v0, lkN_vi, lkR_0, lkR_i, lkR_fl, lkR_l, lkR_ex, beq_tt, beq_tf, beq_ft, beq_ff, siS_eq, siQ_fl, siR_0, siR_2, ixD_l0, ixD_l1, ixD_l2, bitsD_i, rngS1_eq, bd_ok, bd_ex, bs_ok, bs_ex, fz_d, fz_fl, fz_ex, up_ok, up_ex, oo_ok, oo_ex, lk_v, lk_s, lks_nil, lks_cons, ret_some, ret_none, Option.bind_some, Option.map_some, List.length_cons, List.length_nil, if_true, Bool.false_eq_true, if_false, Bool.not_true, Bool.not_false, List.map_cons, List.map_nil, List.cons_append, List.nil_append, List.append_nil, Nat.reduceAdd, Nat.reduceLT, Nat.zero_add, Nat.reduceLeDiff, eq_self, true_and, and_true, splitD_s hy hz', hsp, cg, hi, Bool.false_or, h8, h9]
      exact ⟨_, rfl⟩
/-! the first wrong line -/
def stopB (k wide : Nat) (z : Str) : Bool := (bad z || decide (8 < (rws z).length)) || (decide ((rws z).length < 2) || (k == 5 || (decide (0 < k) && !((rws z).length == wide))))
def wi : List Str → Nat → Nat → Option Nat
  | [], _, _ => none
  | z :: zs, k, wide => if stopB k wide z = true then some k else wi zs (k + 1) (rws z).length
def endR (o : Option Nat) (ρ : Sl) : SR := match o with
  | some n => .rt (.d (.int (n : Int))) ρ
  | none => .nx ρ
theorem cst {a b : Nat} : decide ((a : Int) < (b : Int)) = decide (a < b) := by
  rw [Bool.eq_iff_iff]
  simp
theorem cse {a b : Nat} : ((a : Int) == (b : Int)) = (a == b) := by
  rw [Bool.eq_iff_iff]
  simp
  omega
theorem wi_loop : ∀ (zs : List Str) (k wide : Nat) (o0 o2 o3 o4 : Option W), (∀ z ∈ zs, z.length ≤ B0) → ∃ ρ, forGo (tupG 2 (consG (nmG 2) (consG (nmG 3) nilG))) (sqS (asS 4 (callE 1 f_row_told (consA (ooc (eV 3)) nilA)))
    (sqS (ifS (orT (tst (isN true (oV 4))) (orT (tst (op2 cLt (ooc (fzc (opn lenD (consA (oV 4) nilA)))) (ooc (eC (.int 2))))) (orT (tst (op2 cmpE (oV 2) (ooc (eC (.int 5))))) (andT (tst (op2 cGt (oV 2) (ooc (eC (.int 0))))) (tst (op2 cmpN (ooc (fzc (opn lenD (consA (oV 4) nilA)))) (oV 1))))))) (sqS (rtS (eM 2))
    skp) skp)
    (sqS (asS 1 (opn lenD (consA (oV 4) nilA)))
    skp))) (enumD k (zs.map .str)) [o0, iD wide, o2, o3, o4] = endR (wi zs k wide) ρ
  | [], k, wide, o0, o2, o3, o4, _ => ⟨_, rfl⟩
  | z :: zs, k, wide, o0, o2, o3, o4, h => by
    have hz := h z List.mem_cons_self
    obtain ⟨ρa, ea⟩ := e_row_told z hz
    have tg : tupG 2 (consG (nmG 2) (consG (nmG 3) nilG)) (.tuple [.int (k : Int), .str z]) [o0, iD wide, o2, o3, o4] = some [o0, iD wide, iD k, some (.d (.str z)), o4] := rfl
    have e2 : decide (((rws z).length : Int) < 2) = decide ((rws z).length < 2) := cst (b := 2)
    have e5 : ((k : Int) == 5) = (k == 5) := cse (b := 5)
    have e0 : decide ((0 : Int) < (k : Int)) = decide (0 < k) := cst (a := 0)
    have ew : (((rws z).length : Int) == (wide : Int)) = ((rws z).length == wide) := cse
    show ∃ ρ, forGo _ _ (.tuple [.int (k : Int), .str z] :: enumD (k + 1) (zs.map .str)) [o0, iD wide, o2, o3, o4] = endR (if stopB k wide z = true then some k else wi zs (k + 1) (rws z).length) ρ
    cases hb : (bad z || decide (8 < (rws z).length)) with
    | true =>
      rw [hb, if_pos rfl] at ea
      have hs : stopB k wide z = true := by unfold stopB; rw [hb]; rfl
      rw [if_pos hs]
      refine ⟨[o0, iD wide, none, some (.d (.str z)), some (.d .none)], forGo_rt tg ?_⟩
      simp only [gt_0, pt_0, gt_1, gt_2, gt_3, gt_4, gt_5, gt_6, gt_7, gt_8, gt_9, pt_1, pt_2, pt_3, pt_4, pt_5, pt_6, pt_7, pt_8, pt_9, co_d, co_fl, frz_d, frz_fl, sqS_eq, sq_nx, sq_rt, sq_bk, sq_ct, sq_ex, skp_eq, rtS_eq, asS_eq, ifS_eq, exS_eq, raS_eq, fin_rt, fin_nx, fin_ex, eC_eq, oV_eq, oVr_some, eV_eq, eVr_some, eM_eq, eMr_some, op1_eq, op2_eq, opn_eq, nilA_eq, consA_eq, tst_eq, tstB_ok, ifE_eq, ifR_t, ifR_f, andT_eq, orT_eq, andR_t, andR_f, orR_f, orR_t, notT_eq, dsO_nil, dsO_cons, tupE_eq, lstE_eq, tupR_some, lstR_some, callE_eq, callR_ok, callR_ex, ar_v, ar_s, refs_nil, refs_v, refs_s, bk_nil, bk_v, bk_s, bk_e, noP_eq, soP_eq, soB_int, smE_eq, smR_str, slE_eq, binA_i, binS_i, cmpE_i, cmpE_s, cmpE_b, cmpN_i, cmpN_s, cmpN_b, cmpI_i, absD_i, maxD_i, intD_i, intD_b, negD_i, lenD_l, lenD_t, ixD_t0, ixD_t1, fzc_eq, upc_eq, ooc_eq, hide_nil, hide_cons, back_nil, back_cons, bk_v1, bk_v2, nmG_eq, yesT_eq, compE_eq, compK_ok, anyS_eq, anyR_some, srO_v, srO_vs, srO_s, srR_fl, srR_d, srR_str, cmpIn_s, cmpNin_s, cm2_eq, cmR_t, cmR_f, andE_eq, orE_eq, notE_eq, andV_t, andV_f, orV_f, orV_t, notV_b, parS_eq, parR_2, callO_v, callO_vv, callO_vvv, callO_s, callO_sv, callO_svv, slD_l, allD_1, allD_2, isN_eq, forS_eq, forR_nil, enumS_eq, enR_some, isiD_str, lkN_s, lkN_v0, lkN_vi, lkR_0, lkR_i, lkR_fl, lkR_l, lkR_ex, beq_tt, beq_tf, beq_ft, beq_ff, siS_eq, siQ_fl, siR_0, siR_2, ixD_l0, ixD_l1, ixD_l2, bitsD_i, rngS1_eq, bd_ok, bd_ex, bs_ok, bs_ex, fz_d, fz_fl, fz_ex, up_ok, up_ex, oo_ok, oo_ex, lk_v, lk_s, lks_nil, lks_cons, ret_some, ret_none, Option.bind_some, Option.map_some, List.length_cons, List.length_nil, if_true, Bool.false_eq_true, if_false, Bool.not_true, Bool.not_false, List.map_cons, List.map_nil, List.cons_append, List.nil_append, List.append_nil, Nat.reduceAdd, Nat.reduceLT, Nat.zero_add, Nat.reduceLeDiff, eq_self, true_and, and_true, ea]
    | false =>
      rw [hb] at ea
      simp only [Bool.false_eq_true, if_false] at ea
      have hs : stopB k wide z = (decide ((rws z).length < 2) || (k == 5 || (decide (0 < k) && !((rws z).length == wide)))) := by unfold stopB; rw [hb]; rfl
      rw [hs]
      cases h2 : decide ((rws z).length < 2) with
      | true =>
        simp only [Bool.true_or, if_true]
        refine ⟨[o0, iD wide, none, some (.d (.str z)), some (.fl (rws z))], forGo_rt tg ?_⟩
        simp only [gt_0, pt_0, gt_1, gt_2, gt_3, gt_4, gt_5, gt_6, gt_7, gt_8, gt_9, pt_1, pt_2, pt_3, pt_4, pt_5, pt_6, pt_7, pt_8, pt_9, co_d, co_fl, frz_d, frz_fl, sqS_eq, sq_nx, sq_rt, sq_bk, sq_ct, sq_ex, skp_eq, rtS_eq, asS_eq, ifS_eq, exS_eq, raS_eq, fin_rt, fin_nx, fin_ex, eC_eq, oV_eq, oVr_some, eV_eq, eVr_some, eM_eq, eMr_some, op1_eq, op2_eq, opn_eq, nilA_eq, consA_eq, tst_eq, tstB_ok, ifE_eq, ifR_t, ifR_f, andT_eq, orT_eq, andR_t, andR_f, orR_f, orR_t, notT_eq, dsO_nil, dsO_cons, tupE_eq, lstE_eq, tupR_some, lstR_some, callE_eq, callR_ok, callR_ex, ar_v, ar_s, refs_nil, refs_v, refs_s, bk_nil, bk_v, bk_s, bk_e, noP_eq, soP_eq, soB_int, smE_eq, smR_str, slE_eq, binA_i, binS_i, cmpE_i, cmpE_s, cmpE_b, cmpN_i, cmpN_s, cmpN_b, cmpI_i, absD_i, maxD_i, intD_i, intD_b, negD_i, lenD_l, lenD_t, ixD_t0, ixD_t1, fzc_eq, upc_eq, ooc_eq, hide_nil, hide_cons, back_nil, back_cons, bk_v1, bk_v2, nmG_eq, yesT_eq, compE_eq, compK_ok, anyS_eq, anyR_some, srO_v, srO_vs, srO_s, srR_fl, srR_d, srR_str, cmpIn_s, cmpNin_s, cm2_eq, cmR_t, cmR_f, andE_eq, orE_eq, notE_eq, andV_t, andV_f, orV_f, orV_t, notV_b, parS_eq, parR_2, callO_v, callO_vv, callO_vvv, callO_s, callO_sv, callO_svv, slD_l, allD_1, allD_2, isN_eq, forS_eq, forR_nil, enumS_eq, enR_some, isiD_str, lkN_s, lkN_v0, lkN_vi, lkR_0, lkR_i, lkR_fl, lkR_l, lkR_ex, beq_tt, beq_tf, beq_ft, beq_ff, siS_eq, siQ_fl, siR_0, siR_2, ixD_l0, ixD_l1, ixD_l2, bitsD_i, rngS1_eq, bd_ok, bd_ex, bs_ok, bs_ex, fz_d, fz_fl, fz_ex, up_ok, up_ex, oo_ok, oo_ex, lk_v, lk_s, lks_nil, lks_cons, ret_some, ret_none, Option.bind_some, Option.map_some, List.length_cons, List.length_nil, if_true, Bool.false_eq_true, if_false, Bool.not_true, Bool.not_false, List.map_cons, List.map_nil, List.cons_append, List.nil_append, List.append_nil, Nat.reduceAdd, Nat.reduceLT, Nat.zero_add, Nat.reduceLeDiff, eq_self, true_and, and_true, ea, e2, h2]
      | false =>
        cases h5 : (k == 5) with
        | true =>
          simp only [Bool.true_or, Bool.or_true, if_true]
          refine ⟨[o0, iD wide, none, some (.d (.str z)), some (.fl (rws z))], forGo_rt tg ?_⟩
          simp only [gt_0, pt_0, gt_1, gt_2, gt_3, gt_4, gt_5, gt_6, gt_7, gt_8, gt_9, pt_1, pt_2, pt_3, pt_4, pt_5, pt_6, pt_7, pt_8, pt_9, co_d, co_fl, frz_d, frz_fl, sqS_eq, sq_nx, sq_rt, sq_bk, sq_ct, sq_ex, skp_eq, rtS_eq, asS_eq, ifS_eq, exS_eq, raS_eq, fin_rt, fin_nx, fin_ex, eC_eq, oV_eq, oVr_some, eV_eq, eVr_some, eM_eq, eMr_some, op1_eq, op2_eq, opn_eq, nilA_eq, consA_eq, tst_eq, tstB_ok, ifE_eq, ifR_t, ifR_f, andT_eq, orT_eq, andR_t, andR_f, orR_f, orR_t, notT_eq, dsO_nil, dsO_cons, tupE_eq, lstE_eq, tupR_some, lstR_some, callE_eq, callR_ok, callR_ex, ar_v, ar_s, refs_nil, refs_v, refs_s, bk_nil, bk_v, bk_s, bk_e, noP_eq, soP_eq, soB_int, smE_eq, smR_str, slE_eq, binA_i, binS_i, cmpE_i, cmpE_s, cmpE_b, cmpN_i, cmpN_s, cmpN_b, cmpI_i, absD_i, maxD_i, intD_i, intD_b, negD_i, lenD_l, lenD_t, ixD_t0, ixD_t1, fzc_eq, upc_eq, ooc_eq, hide_nil, hide_cons, back_nil, back_cons, bk_v1, bk_v2, nmG_eq, yesT_eq, compE_eq, compK_ok, anyS_eq, anyR_some, srO_v, srO_vs, srO_s, srR_fl, srR_d, srR_str, cmpIn_s, cmpNin_s, cm2_eq, cmR_t, cmR_f, andE_eq, orE_eq, notE_eq, andV_t, andV_f, orV_f, orV_t, notV_b, parS_eq, parR_2, callO_v, callO_vv, callO_vvv, callO_s, callO_sv, callO_svv, slD_l, allD_1, allD_2, isN_eq, forS_eq, forR_nil, enumS_eq, enR_some, isiD_str, lkN_s, lkN_v0, lkN_vi, lkR_0, lkR_i, lkR_fl, lkR_l, lkR_ex, beq_tt, beq_tf, beq_ft, beq_ff, siS_eq, siQ_fl, siR_0, siR_2, ixD_l0, ixD_l1, ixD_l2, bitsD_i, rngS1_eq, bd_ok, bd_ex, bs_ok, bs_ex, fz_d, fz_fl, fz_ex, up_ok, up_ex, oo_ok, oo_ex, lk_v, lk_s, lks_nil, lks_cons, ret_some, ret_none, Option.bind_some, Option.map_some, List.length_cons, List.length_nil, if_true, Bool.false_eq_true, if_false, Bool.not_true, Bool.not_false, List.map_cons, List.map_nil, List.cons_append, List.nil_append, List.append_nil, Nat.reduceAdd, Nat.reduceLT, Nat.zero_add, Nat.reduceLeDiff, eq_self, true_and, and_true, ea, e2, h2, e5, h5]
        | false =>
          cases h0 : decide (0 < k) with
          | false =>
            simp only [Bool.false_or, Bool.false_and, Bool.false_eq_true, if_false]
            obtain ⟨ρ, ih⟩ := wi_loop zs (k + 1) (rws z).length o0 (iD k) (some (.d (.str z))) (some (.fl (rws z))) fun y hy => h y (List.mem_cons_of_mem _ hy)
            refine ⟨ρ, (forGo_nx tg ?_).trans ih⟩
            simp only [gt_0, pt_0, gt_1, gt_2, gt_3, gt_4, gt_5, gt_6, gt_7, gt_8, gt_9, pt_1, pt_2, pt_3, pt_4, pt_5, pt_6, pt_7, pt_8, pt_9, co_d, co_fl, frz_d, frz_fl, sqS_eq, sq_nx, sq_rt, sq_bk, sq_ct, sq_ex, skp_eq, rtS_eq, asS_eq, ifS_eq, exS_eq, raS_eq, fin_rt, fin_nx, fin_ex, eC_eq, oV_eq, oVr_some, eV_eq, eVr_some, eM_eq, eMr_some, op1_eq, op2_eq, opn_eq, nilA_eq, consA_eq, tst_eq, tstB_ok, ifE_eq, ifR_t, ifR_f, andT_eq, orT_eq, andR_t, andR_f, orR_f, orR_t, notT_eq, dsO_nil, dsO_cons, tupE_eq, lstE_eq, tupR_some, lstR_some, callE_eq, callR_ok, callR_ex, ar_v, ar_s, refs_nil, refs_v, refs_s, bk_nil, bk_v, bk_s, bk_e, noP_eq, soP_eq, soB_int, smE_eq, smR_str, slE_eq, binA_i, binS_i, cmpE_i, cmpE_s, cmpE_b, cmpN_i, cmpN_s, cmpN_b, cmpI_i, absD_i, maxD_i, intD_i, intD_b, negD_i, lenD_l, lenD_t, ixD_t0, ixD_t1, fzc_eq, upc_eq, ooc_eq, hide_nil, hide_cons, back_nil, back_cons, bk_v1, bk_v2, nmG_eq, yesT_eq, compE_eq, compK_ok, anyS_eq, anyR_some, srO_v, srO_vs, srO_s, srR_fl, srR_d, srR_str, cmpIn_s, cmpNin_s, cm2_eq, cmR_t, cmR_f, andE_eq, orE_eq, notE_eq, andV_t, andV_f, orV_f, orV_t, notV_b, parS_eq, parR_2, callO_v, callO_vv, callO_vvv, callO_s, callO_sv, callO_svv, slD_l, allD_1, allD_2, isN_eq, forS_eq, forR_nil, enumS_eq, enR_some, isiD_str, lkN_s, lkN_v0, lkN_vi, lkR_0, lkR_i, lkR_fl, lkR_l, lkR_ex, beq_tt, beq_tf, beq_ft, beq_ff, siS_eq, siQ_fl, siR_0, siR_2, ixD_l0, ixD_l1, ixD_l2, bitsD_i, rngS1_eq, bd_ok, bd_ex, bs_ok, bs_ex, fz_d, fz_fl, fz_ex, up_ok, up_ex, oo_ok, oo_ex, lk_v, lk_s, lks_nil, lks_cons, ret_some, ret_none, Option.bind_some, Option.map_some, List.length_cons, List.length_nil, if_true, Bool.false_eq_true, if_false, Bool.not_true, Bool.not_false, List.map_cons, List.map_nil, List.cons_append, List.nil_append, List.append_nil, Nat.reduceAdd, Nat.reduceLT, Nat.zero_add, Nat.reduceLeDiff, eq_self, true_and, and_true, ea, e2, h2, e5, h5, e0, h0]
          | true =>
            cases hw : ((rws z).length == wide) with
            | false =>
              simp only [Bool.false_or, Bool.true_and, Bool.not_false, if_true]
              refine ⟨[o0, iD wide, none, some (.d (.str z)), some (.fl (rws z))], forGo_rt tg ?_⟩
              simp only [gt_0, pt_0, gt_1, gt_2, gt_3, gt_4, gt_5, gt_6, gt_7, gt_8, gt_9, pt_1, pt_2, pt_3, pt_4, pt_5, pt_6, pt_7, pt_8, pt_9, co_d, co_fl, frz_d, frz_fl, sqS_eq, sq_nx, sq_rt, sq_bk, sq_ct, sq_ex, skp_eq, rtS_eq, asS_eq, ifS_eq, exS_eq, raS_eq, fin_rt, fin_nx, fin_ex, eC_eq, oV_eq, oVr_some, eV_eq, eVr_some, eM_eq, eMr_some, op1_eq, op2_eq, opn_eq, nilA_eq, consA_eq, tst_eq, tstB_ok, ifE_eq, ifR_t, ifR_f, andT_eq, orT_eq, andR_t, andR_f, orR_f, orR_t, notT_eq, dsO_nil, dsO_cons, tupE_eq, lstE_eq, tupR_some, lstR_some, callE_eq, callR_ok, callR_ex, ar_v, ar_s, refs_nil, refs_v, refs_s, bk_nil, bk_v, bk_s, bk_e, noP_eq, soP_eq, soB_int, smE_eq, smR_str, slE_eq, binA_i, binS_i, cmpE_i, cmpE_s, cmpE_b, cmpN_i, cmpN_s, cmpN_b, cmpI_i, absD_i, maxD_i, intD_i, intD_b, negD_i, lenD_l, lenD_t, ixD_t0, ixD_t1, fzc_eq, upc_eq, ooc_eq, hide_nil, hide_cons, back_nil, back_cons, bk_v1, bk_v2, nmG_eq, yesT_eq, compE_eq, compK_ok, anyS_eq, anyR_some, srO_v, srO_vs, srO_s, srR_fl, srR_d, srR_str, cmpIn_s, cmpNin_s, cm2_eq, cmR_t, cmR_f, andE_eq, orE_eq, notE_eq, andV_t, andV_f, orV_f, orV_t, notV_b, parS_eq, parR_2, callO_v, callO_vv, callO_vvv, callO_s, callO_sv, callO_svv, slD_l, allD_1, allD_2, isN_eq, forS_eq, forR_nil, enumS_eq, enR_some, isiD_str, lkN_s, lkN_v0, lkN_vi, lkR_0, lkR_i, lkR_fl, lkR_l, lkR_ex, beq_tt, beq_tf, beq_ft, beq_ff, siS_eq, siQ_fl, siR_0, siR_2, ixD_l0, ixD_l1, ixD_l2, bitsD_i, rngS1_eq, bd_ok, bd_ex, bs_ok, bs_ex, fz_d, fz_fl, fz_ex, up_ok, up_ex, oo_ok, oo_ex, lk_v, lk_s, lks_nil, lks_cons, ret_some, ret_none, Option.bind_some, Option.map_some, List.length_cons, List.length_nil, if_true, Bool.false_eq_true, if_false, Bool.not_true, Bool.not_false, List.map_cons, List.map_nil, List.cons_append, List.nil_append, List.append_nil, Nat.reduceAdd, Nat.reduceLT, Nat.zero_add, Nat.reduceLeDiff, eq_self, true_and, and_true, ea, e2, h2, e5, h5, e0, h0, ew, hw]
            | true =>
              simp only [Bool.false_or, Bool.true_and, Bool.not_true, Bool.false_eq_true, if_false]
              obtain ⟨ρ, ih⟩ := wi_loop zs (k + 1) (rws z).length o0 (iD k) (some (.d (.str z))) (some (.fl (rws z))) fun y hy => h y (List.mem_cons_of_mem _ hy)
              refine ⟨ρ, (forGo_nx tg ?_).trans ih⟩
              simp only [gt_0, pt_0, gt_1, gt_2, gt_3, gt_4, gt_5, gt_6, gt_7, gt_8, gt_9, pt_1, pt_2, pt_3, pt_4, pt_5, pt_6, pt_7, pt_8, pt_9, co_d, co_fl, frz_d, frz_fl, sqS_eq, sq_nx, sq_rt, sq_bk, sq_ct, sq_ex, skp_eq, rtS_eq, asS_eq, ifS_eq, exS_eq, raS_eq, fin_rt, fin_nx, fin_ex, eC_eq, oV_eq, oVr_some, eV_eq, eVr_some, eM_eq, eMr_some, op1_eq, op2_eq, opn_eq, nilA_eq, consA_eq, tst_eq, tstB_ok, ifE_eq, ifR_t, ifR_f, andT_eq, orT_eq, andR_t, andR_f, orR_f, orR_t, notT_eq, dsO_nil, dsO_cons, tupE_eq, lstE_eq, tupR_some, lstR_some, callE_eq, callR_ok, callR_ex, ar_v, ar_s, refs_nil, refs_v, refs_s, bk_nil, bk_v, bk_s, bk_e, noP_eq, soP_eq, soB_int, smE_eq, smR_str, slE_eq, binA_i, binS_i, cmpE_i, cmpE_s, cmpE_b, cmpN_i, cmpN_s, cmpN_b, cmpI_i, absD_i, maxD_i, intD_i, intD_b, negD_i, lenD_l, lenD_t, ixD_t0, ixD_t1, fzc_eq, upc_eq, ooc_eq, hide_nil, hide_cons, back_nil, back_cons, bk_v1, bk_v2, nmG_eq, yesT_eq, compE_eq, compK_ok, anyS_eq, anyR_some, srO_v, srO_vs, srO_s, srR_fl, srR_d, srR_str, cmpIn_s, cmpNin_s, cm2_eq, cmR_t, cmR_f, andE_eq, orE_eq, notE_eq, andV_t, andV_f, orV_f, orV_t, notV_b, parS_eq, parR_2, callO_v, callO_vv, callO_vvv, callO_s, callO_sv, callO_svv, slD_l, allD_1, allD_2, isN_eq, forS_eq, forR_nil, enumS_eq, enR_some, isiD_str, lkN_s, lkN_v0, lkN_vi, lkR_0, lkR_i, lkR_fl, lkR_l, lkR_ex, beq_tt, beq_tf, beq_ft, beq_ff, siS_eq, siQ_fl, siR_0, siR_2, ixD_l0, ixD_l1, ixD_l2, bitsD_i, rngS1_eq, bd_ok, bd_ex, bs_ok, bs_ex, fz_d, fz_fl, fz_ex, up_ok, up_ex, oo_ok, oo_ex, lk_v, lk_s, lks_nil, lks_cons, ret_some, ret_none, Option.bind_some, Option.map_some, List.length_cons, List.length_nil, if_true, Bool.false_eq_true, if_false, Bool.not_true, Bool.not_false, List.map_cons, List.map_nil, List.cons_append, List.nil_append, List.append_nil, Nat.reduceAdd, Nat.reduceLT, Nat.zero_add, Nat.reduceLeDiff, eq_self, true_and, and_true, ea, e2, h2, e5, h5, e0, h0, ew, hw]
def optD : Option Nat → PyData
  | some n => .int (n : Int)
  | none => .none
theorem e_wrong_in (zs : List Str) (h : ∀ z ∈ zs, z.length ≤ B0) : ∃ ρ, f_wrong_in [some (.d (.list (zs.map .str)))] = .ok (.d (optD (wi zs 0 0))) ρ := by
  rw [show f_wrong_in [some (.d (.list (zs.map .str)))] = finR 1 [1, 2, 3, 4] (s_wrong_in [some (.d (.list (zs.map .str))), none, none, none, none]) from bodyR_eq ..]
  unfold s_wrong_in
  obtain ⟨ρ, e⟩ := wi_loop zs 0 0 (some (.d (.list (zs.map .str)))) none none none h
  rw [show (((0 : Nat) : Int)) = 0 from rfl] at e
  simp only [gt_0, pt_0, gt_1, gt_2, gt_3, gt_4, gt_5, gt_6, gt_7, gt_8, gt_9, pt_1, pt_2, pt_3, pt_4, pt_5, pt_6, pt_7, pt_8, pt_9, co_d, co_fl, frz_d, frz_fl, sqS_eq, sq_nx, sq_rt, sq_bk, sq_ct, sq_ex, skp_eq, rtS_eq, asS_eq, ifS_eq, exS_eq, raS_eq, fin_rt, fin_nx, fin_ex, eC_eq, oV_eq, oVr_some, eV_eq, eVr_some, eM_eq, eMr_some, op1_eq, op2_eq, opn_eq, nilA_eq, consA_eq, tst_eq, tstB_ok, ifE_eq, ifR_t, ifR_f, andT_eq, orT_eq, andR_t, andR_f, orR_f, orR_t, notT_eq, dsO_nil, dsO_cons, tupE_eq, lstE_eq, tupR_some, lstR_some, callE_eq, callR_ok, callR_ex, ar_v, ar_s, refs_nil, refs_v, refs_s, bk_nil, bk_v, bk_s, bk_e, noP_eq, soP_eq, soB_int, smE_eq, smR_str, slE_eq, binA_i, binS_i, cmpE_i, cmpE_s, cmpE_b, cmpN_i, cmpN_s, cmpN_b, cmpI_i, absD_i, maxD_i, intD_i, intD_b, negD_i, lenD_l, lenD_t, ixD_t0, ixD_t1, fzc_eq, upc_eq, ooc_eq, hide_nil, hide_cons, back_nil, back_cons, bk_v1, bk_v2, nmG_eq, yesT_eq, compE_eq, compK_ok, anyS_eq, anyR_some, srO_v, srO_vs, srO_s, srR_fl, srR_d, srR_str, cmpIn_s, cmpNin_s, cm2_eq, cmR_t, cmR_f, andE_eq, orE_eq, notE_eq, andV_t, andV_f, orV_f, orV_t, notV_b, parS_eq, parR_2, callO_v, callO_vv, callO_vvv, callO_s, callO_sv, callO_svv, slD_l, allD_1, allD_2, isN_eq, forS_eq, forR_nil, enumS_eq, enR_some, isiD_str, lkN_s, lkN_v0, lkN_vi, lkR_0, lkR_i, lkR_fl, lkR_l, lkR_ex, beq_tt, beq_tf, beq_ft, beq_ff, siS_eq, siQ_fl, siR_0, siR_2, ixD_l0, ixD_l1, ixD_l2, bitsD_i, rngS1_eq, bd_ok, bd_ex, bs_ok, bs_ex, fz_d, fz_fl, fz_ex, up_ok, up_ex, oo_ok, oo_ex, lk_v, lk_s, lks_nil, lks_cons, ret_some, ret_none, Option.bind_some, Option.map_some, List.length_cons, List.length_nil, if_true, Bool.false_eq_true, if_false, Bool.not_true, Bool.not_false, List.map_cons, List.map_nil, List.cons_append, List.nil_append, List.append_nil, Nat.reduceAdd, Nat.reduceLT, Nat.zero_add, Nat.reduceLeDiff, eq_self, true_and, and_true]
  rw [e]
  cases wi zs 0 0 with
  | none =>
    show ∃ ρ', finR 1 [1, 2, 3, 4] (sq (.nx ρ) _) = _
    simp only [gt_0, pt_0, gt_1, gt_2, gt_3, gt_4, gt_5, gt_6, gt_7, gt_8, gt_9, pt_1, pt_2, pt_3, pt_4, pt_5, pt_6, pt_7, pt_8, pt_9, co_d, co_fl, frz_d, frz_fl, sqS_eq, sq_nx, sq_rt, sq_bk, sq_ct, sq_ex, skp_eq, rtS_eq, asS_eq, ifS_eq, exS_eq, raS_eq, fin_rt, fin_nx, fin_ex, eC_eq, oV_eq, oVr_some, eV_eq, eVr_some, eM_eq, eMr_some, op1_eq, op2_eq, opn_eq, nilA_eq, consA_eq, tst_eq, tstB_ok, ifE_eq, ifR_t, ifR_f, andT_eq, orT_eq, andR_t, andR_f, orR_f, orR_t, notT_eq, dsO_nil, dsO_cons, tupE_eq, lstE_eq, tupR_some, lstR_some, callE_eq, callR_ok, callR_ex, ar_v, ar_s, refs_nil, refs_v, refs_s, bk_nil, bk_v, bk_s, bk_e, noP_eq, soP_eq, soB_int, smE_eq, smR_str, slE_eq, binA_i, binS_i, cmpE_i, cmpE_s, cmpE_b, cmpN_i, cmpN_s, cmpN_b, cmpI_i, absD_i, maxD_i, intD_i, intD_b, negD_i, lenD_l, lenD_t, ixD_t0, ixD_t1, fzc_eq, upc_eq, ooc_eq, hide_nil, hide_cons, back_nil, back_cons, bk_v1, bk_v2, nmG_eq, yesT_eq, compE_eq, compK_ok, anyS_eq, anyR_some, srO_v, srO_vs, srO_s, srR_fl, srR_d, srR_str, cmpIn_s, cmpNin_s, cm2_eq, cmR_t, cmR_f, andE_eq, orE_eq, notE_eq, andV_t, andV_f, orV_f, orV_t, notV_b, parS_eq, parR_2, callO_v, callO_vv, callO_vvv, callO_s, callO_sv, callO_svv, slD_l, allD_1, allD_2, isN_eq, forS_eq, forR_nil, enumS_eq, enR_some, isiD_str, lkN_s, lkN_v0, lkN_vi, lkR_0, lkR_i, lkR_fl, lkR_l, lkR_ex, beq_tt, beq_tf, beq_ft, beq_ff, siS_eq, siQ_fl, siR_0, siR_2, ixD_l0, ixD_l1, ixD_l2, bitsD_i, rngS1_eq, bd_ok, bd_ex, bs_ok, bs_ex, fz_d, fz_fl, fz_ex, up_ok, up_ex, oo_ok, oo_ex, lk_v, lk_s, lks_nil, lks_cons, ret_some, ret_none, Option.bind_some, Option.map_some, List.length_cons, List.length_nil, if_true, Bool.false_eq_true, if_false, Bool.not_true, Bool.not_false, List.map_cons, List.map_nil, List.cons_append, List.nil_append, List.append_nil, Nat.reduceAdd, Nat.reduceLT, Nat.zero_add, Nat.reduceLeDiff, eq_self, true_and, and_true]
    exact ⟨_, rfl⟩
  | some n => exact ⟨_, rfl⟩
theorem cut_init {α : Type} (xs : List α) : Ev.cutD xs none (some (-1)) = xs.dropLast := by
  unfold Ev.cutD HT.sIx
  simp only [List.drop_zero]
  rw [List.dropLast_eq_take]
  congr 1
  have : ((-1 : Int) < 0) := by decide
  rw [if_pos this]
  omega
abbrev lns (z : Str) : List Str := Txt.split z "\n"
theorem lns_pos (z : Str) : 1 ≤ (lns z).length := PyProof.Rows.split_pos _ _
theorem lns_len {z p : Str} (hz : z.length ≤ B0) (h : p ∈ lns z) : p.length ≤ B0 := Nat.le_trans (len_split (by decide) h) hz
theorem lns_cnt {z : Str} (hz : z.length ≤ B0) : (lns z).length ≤ 16777216 := by
  have h1 : (lns z).length ≤ z.length + 1 := cnt_split (by decide)
  unfold B0 at hz
  omega
def lst (z : Str) : Str := (lns z).getLastD ""
theorem at_last (z : Str) : atI ((lns z).map PyData.str) (-1) = some (.str (lst z)) := by
  have h := lns_pos z
  unfold atI ixN
  rw [if_neg (by decide), if_pos (by rw [List.length_map]; omega)]
  show ((lns z).map PyData.str)[((-1 : Int) + ((lns z).map PyData.str).length).toNat]? = _
  rw [List.length_map, show ((-1 : Int) + ((lns z).length : Int)).toNat = (lns z).length - 1 by omega, List.getElem?_map]
  unfold lst
  rw [← List.getLast?_eq_getElem?, List.getLastD_eq_getLast?]
  cases e : (lns z).getLast? with
  | none =>
    rw [List.getLast?_eq_none_iff] at e
    rw [e] at h
    exact absurd h (by decide)
  | some w => rfl
/-- the first wrong line of a text -/
def wb (z : Str) : Option Nat := match wi (lns z).dropLast 0 0 with
  | some n => some n
  | none => if (!(lst z == "") || decide ((lns z).length < 2)) = true then some ((lns z).length - 1) else none
theorem init_len {z : Str} (hz : z.length ≤ B0) : ∀ p ∈ (lns z).dropLast, p.length ≤ B0 := fun p hp => lns_len hz (List.dropLast_subset _ hp)
theorem e_wrong_by (z : Str) (hz : z.length ≤ B0) : ∃ ρ, f_wrong_by [some (.d (.str z))] = .ok (.d (optD (wb z))) ρ := by
  rw [show f_wrong_by [some (.d (.str z))] = finR 1 [1, 2] (s_wrong_by [some (.d (.str z)), none, none]) from bodyR_eq ..]
  unfold s_wrong_by
  have hz' : z.length + 2 ≤ 16777216 := by unfold B0 at hz; omega
  have hy : (("\n" : Str).length == 0) = false := by decide
  obtain ⟨ρ, e⟩ := e_wrong_in _ (init_len hz)
  have hci : Ev.cutD ((lns z).map PyData.str) none (some (-1)) = (lns z).dropLast.map PyData.str := by rw [cut_init, List.map_dropLast]
  have hl : (((lns z).map PyData.str).length : Int) = ((lns z).length : Int) := by rw [List.length_map]
  have il : ixD (.list ((lns z).map PyData.str)) (.int (-1)) = some (.d (.str (lst z))) := ixD_l (at_last z)
  have h2 : decide (((lns z).length : Int) < 2) = decide ((lns z).length < 2) := cst (b := 2)
  have hm : ((lns z).length : Int) - 1 = (((lns z).length - 1 : Nat) : Int) := by have := lns_pos z; omega
  have hsp : Txt.split z "\n" = lns z := rfl
  unfold wb
  cases hw : wi (lns z).dropLast 0 0 with
  | some n =>
    rw [hw] at e
    simp only [optD] at e
    simp only [gt_0, pt_0, gt_1, gt_2, gt_3, gt_4, gt_5, gt_6, gt_7, gt_8, gt_9, pt_1, pt_2, pt_3, pt_4, pt_5, pt_6, pt_7, pt_8, pt_9, co_d, co_fl, frz_d, frz_fl, sqS_eq, sq_nx, sq_rt, sq_bk, sq_ct, sq_ex, skp_eq, rtS_eq, asS_eq, ifS_eq, exS_eq, raS_eq, fin_rt, fin_nx, fin_ex, eC_eq, oV_eq, oVr_some, eV_eq, eVr_some, eM_eq, eMr_some, op1_eq, op2_eq, opn_eq, nilA_eq, consA_eq, tst_eq, tstB_ok, ifE_eq, ifR_t, ifR_f, andT_eq, orT_eq, andR_t, andR_f, orR_f, orR_t, notT_eq, dsO_nil, dsO_cons, tupE_eq, lstE_eq, tupR_some, lstR_some, callE_eq, callR_ok, callR_ex, ar_v, ar_s, refs_nil, refs_v, refs_s, bk_nil, bk_v, bk_s, bk_e, noP_eq, soP_eq, soB_int, smE_eq, smR_str, slE_eq, binA_i, binS_i, cmpE_i, cmpE_s, cmpE_b, cmpN_i, cmpN_s, cmpN_b, cmpI_i, absD_i, maxD_i, intD_i, intD_b, negD_i, lenD_l, lenD_t, ixD_t0, ixD_t1, fzc_eq, upc_eq, ooc_eq, hide_nil, hide_cons, back_nil, back_cons, bk_v1, bk_v2, nmG_eq, yesT_eq, compE_eq, compK_ok, anyS_eq, anyR_some, srO_v, srO_vs, srO_s, srR_fl, srR_d, srR_str, cmpIn_s, cmpNin_s, cm2_eq, cmR_t, cmR_f, andE_eq, orE_eq, notE_eq, andV_t, andV_f, orV_f, orV_t, notV_b, parS_eq, parR_2, callO_v, callO_vv, callO_vvv, callO_s, callO_sv, callO_svv, slD_l, allD_1, allD_2, isN_eq, forS_eq, forR_nil, enumS_eq, enR_some, isiD_str, lkN_s, lkN_v0, lkN_vi, lkR_0, lkR_i, lkR_fl, lkR_l, lkR_ex, beq_tt, beq_tf, beq_ft, beq_ff, siS_eq, siQ_fl, siR_0, siR_2, ixD_l0, ixD_l1, ixD_l2, bitsD_i, rngS1_eq, bd_ok, bd_ex, bs_ok, bs_ex, fz_d, fz_fl, fz_ex, up_ok, up_ex, oo_ok, oo_ex, lk_v, lk_s, lks_nil, lks_cons, ret_some, ret_none, Option.bind_some, Option.map_some, List.length_cons, List.length_nil, if_true, Bool.false_eq_true, if_false, Bool.not_true, Bool.not_false, List.map_cons, List.map_nil, List.cons_append, List.nil_append, List.append_nil, Nat.reduceAdd, Nat.reduceLT, Nat.zero_add, Nat.reduceLeDiff, eq_self, true_and, and_true, splitD_s hy hz', hsp, hci, e]
    exact ⟨_, rfl⟩
  | none =>
    rw [hw] at e
    simp only [optD] at e
    cases h3 : (lst z == ("" : Str)) with
    | false =>
      simp only [gt_0, pt_0, gt_1, gt_2, gt_3, gt_4, gt_5, gt_6, gt_7, gt_8, gt_9, pt_1, pt_2, pt_3, pt_4, pt_5, pt_6, pt_7, pt_8, pt_9, co_d, co_fl, frz_d, frz_fl, sqS_eq, sq_nx, sq_rt, sq_bk, sq_ct, sq_ex, skp_eq, rtS_eq, asS_eq, ifS_eq, exS_eq, raS_eq, fin_rt, fin_nx, fin_ex, eC_eq, oV_eq, oVr_some, eV_eq, eVr_some, eM_eq, eMr_some, op1_eq, op2_eq, opn_eq, nilA_eq, consA_eq, tst_eq, tstB_ok, ifE_eq, ifR_t, ifR_f, andT_eq, orT_eq, andR_t, andR_f, orR_f, orR_t, notT_eq, dsO_nil, dsO_cons, tupE_eq, lstE_eq, tupR_some, lstR_some, callE_eq, callR_ok, callR_ex, ar_v, ar_s, refs_nil, refs_v, refs_s, bk_nil, bk_v, bk_s, bk_e, noP_eq, soP_eq, soB_int, smE_eq, smR_str, slE_eq, binA_i, binS_i, cmpE_i, cmpE_s, cmpE_b, cmpN_i, cmpN_s, cmpN_b, cmpI_i, absD_i, maxD_i, intD_i, intD_b, negD_i, lenD_l, lenD_t, ixD_t0, ixD_t1, fzc_eq, upc_eq, ooc_eq, hide_nil, hide_cons, back_nil, back_cons, bk_v1, bk_v2, nmG_eq, yesT_eq, compE_eq, compK_ok, anyS_eq, anyR_some, srO_v, srO_vs, srO_s, srR_fl, srR_d, srR_str, cmpIn_s, cmpNin_s, cm2_eq, cmR_t, cmR_f, andE_eq, orE_eq, notE_eq, andV_t, andV_f, orV_f, orV_t, notV_b, parS_eq, parR_2, callO_v, callO_vv, callO_vvv, callO_s, callO_sv, callO_svv, slD_l, allD_1, allD_2, isN_eq, forS_eq, forR_nil, enumS_eq, enR_some, isiD_str, lkN_s, lkN_v0, lkN_vi, lkR_0, lkR_i, lkR_fl, lkR_l, lkR_ex, beq_tt, beq_tf, beq_ft, beq_ff, siS_eq, siQ_fl, siR_0, siR_2, ixD_l0, ixD_l1, ixD_l2, bitsD_i, rngS1_eq, bd_ok, bd_ex, bs_ok, bs_ex, fz_d, fz_fl, fz_ex, up_ok, up_ex, oo_ok, oo_ex, lk_v, lk_s, lks_nil, lks_cons, ret_some, ret_none, Option.bind_some, Option.map_some, List.length_cons, List.length_nil, if_true, Bool.false_eq_true, if_false, Bool.not_true, Bool.not_false, List.map_cons, List.map_nil, List.cons_append, List.nil_append, List.append_nil, Nat.reduceAdd, Nat.reduceLT, Nat.zero_add, Nat.reduceLeDiff, eq_self, true_and, and_true, splitD_s hy hz', hsp, hci, e, il, h3, hl, hm, Bool.true_or]
      exact ⟨_, rfl⟩
    | true =>
      cases h4 : decide ((lns z).length < 2)
      all_goals
        simp only [gt_0, pt_0, gt_1, gt_2, gt_3, gt_4, gt_5, gt_6, gt_7, gt_8, gt_9, pt_1, pt_2, pt_3, pt_4, pt_5, pt_6, pt_7, pt_8, pt_9, co_d, co_fl, frz_d, frz_fl, sqS_eq, sq_nx, sq_rt, sq_bk, sq_ct, sq_ex, skp_eq, rtS_eq, asS_eq, ifS_eq, exS_eq, raS_eq, fin_rt, fin_nx, fin_ex, eC_eq, oV_eq, oVr_some, eV_eq, eVr_some, eM_eq, eMr_some, op1_eq, op2_eq, opn_eq, nilA_eq, consA_eq, tst_eq, tstB_ok, ifE_eq, ifR_t, ifR_f, andT_eq, orT_eq, andR_t, andR_f, orR_f, orR_t, notT_eq, dsO_nil, dsO_cons, tupE_eq, lstE_eq, tupR_some, lstR_some, callE_eq, callR_ok, callR_ex, ar_v, ar_s, refs_nil, refs_v, refs_s, bk_nil, bk_v, bk_s, bk_e, noP_eq, soP_eq, soB_int, smE_eq, smR_str, slE_eq, binA_i, binS_i, cmpE_i, cmpE_s, cmpE_b, cmpN_i, cmpN_s, cmpN_b, cmpI_i, absD_i, maxD_i, intD_i, intD_b, negD_i, lenD_l, lenD_t, ixD_t0, ixD_t1, fzc_eq, upc_eq, ooc_eq, hide_nil, hide_cons, back_nil, back_cons, bk_v1, bk_v2, nmG_eq, yesT_eq, compE_eq, compK_ok, anyS_eq, anyR_some, srO_v, srO_vs, srO_s, srR_fl, srR_d, srR_str, cmpIn_s, cmpNin_s, cm2_eq, cmR_t, cmR_f, andE_eq, orE_eq, notE_eq, andV_t, andV_f, orV_f, orV_t, notV_b, parS_eq, parR_2, callO_v, callO_vv, callO_vvv, callO_s, callO_sv, callO_svv, slD_l, allD_1, allD_2, isN_eq, forS_eq, forR_nil, enumS_eq, enR_some, isiD_str, lkN_s, lkN_v0, lkN_vi, lkR_0, lkR_i, lkR_fl, lkR_l, lkR_ex, beq_tt, beq_tf, beq_ft, beq_ff, siS_eq, siQ_fl, siR_0, siR_2, ixD_l0, ixD_l1, ixD_l2, bitsD_i, rngS1_eq, bd_ok, bd_ex, bs_ok, bs_ex, fz_d, fz_fl, fz_ex, up_ok, up_ex, oo_ok, oo_ex, lk_v, lk_s, lks_nil, lks_cons, ret_some, ret_none, Option.bind_some, Option.map_some, List.length_cons, List.length_nil, if_true, Bool.false_eq_true, if_false, Bool.not_true, Bool.not_false, List.map_cons, List.map_nil, List.cons_append, List.nil_append, List.append_nil, Nat.reduceAdd, Nat.reduceLT, Nat.zero_add, Nat.reduceLeDiff, eq_self, true_and, and_true, splitD_s hy hz', hsp, hci, e, il, h3, hl, hm, h2, h4, Bool.false_or]
        exact ⟨_, rfl⟩
theorem e_wrong_line (z : Str) (hz : z.length ≤ B0) : ∃ ρ, f_wrong_line [some (.d (.str z))] = .ok (.d (optD (wb z))) ρ := by
  rw [show f_wrong_line [some (.d (.str z))] = finR 1 [] (s_wrong_line [some (.d (.str z))]) from bodyR_eq ..]
  unfold s_wrong_line
  obtain ⟨ρ, e⟩ := e_wrong_by z hz
  simp only [gt_0, pt_0, gt_1, gt_2, gt_3, gt_4, gt_5, gt_6, gt_7, gt_8, gt_9, pt_1, pt_2, pt_3, pt_4, pt_5, pt_6, pt_7, pt_8, pt_9, co_d, co_fl, frz_d, frz_fl, sqS_eq, sq_nx, sq_rt, sq_bk, sq_ct, sq_ex, skp_eq, rtS_eq, asS_eq, ifS_eq, exS_eq, raS_eq, fin_rt, fin_nx, fin_ex, eC_eq, oV_eq, oVr_some, eV_eq, eVr_some, eM_eq, eMr_some, op1_eq, op2_eq, opn_eq, nilA_eq, consA_eq, tst_eq, tstB_ok, ifE_eq, ifR_t, ifR_f, andT_eq, orT_eq, andR_t, andR_f, orR_f, orR_t, notT_eq, dsO_nil, dsO_cons, tupE_eq, lstE_eq, tupR_some, lstR_some, callE_eq, callR_ok, callR_ex, ar_v, ar_s, refs_nil, refs_v, refs_s, bk_nil, bk_v, bk_s, bk_e, noP_eq, soP_eq, soB_int, smE_eq, smR_str, slE_eq, binA_i, binS_i, cmpE_i, cmpE_s, cmpE_b, cmpN_i, cmpN_s, cmpN_b, cmpI_i, absD_i, maxD_i, intD_i, intD_b, negD_i, lenD_l, lenD_t, ixD_t0, ixD_t1, fzc_eq, upc_eq, ooc_eq, hide_nil, hide_cons, back_nil, back_cons, bk_v1, bk_v2, nmG_eq, yesT_eq, compE_eq, compK_ok, anyS_eq, anyR_some, srO_v, srO_vs, srO_s, srR_fl, srR_d, srR_str, cmpIn_s, cmpNin_s, cm2_eq, cmR_t, cmR_f, andE_eq, orE_eq, notE_eq, andV_t, andV_f, orV_f, orV_t, notV_b, parS_eq, parR_2, callO_v, callO_vv, callO_vvv, callO_s, callO_sv, callO_svv, slD_l, allD_1, allD_2, isN_eq, forS_eq, forR_nil, enumS_eq, enR_some, isiD_str, lkN_s, lkN_v0, lkN_vi, lkR_0, lkR_i, lkR_fl, lkR_l, lkR_ex, beq_tt, beq_tf, beq_ft, beq_ff, siS_eq, siQ_fl, siR_0, siR_2, ixD_l0, ixD_l1, ixD_l2, bitsD_i, rngS1_eq, bd_ok, bd_ex, bs_ok, bs_ex, fz_d, fz_fl, fz_ex, up_ok, up_ex, oo_ok, oo_ex, lk_v, lk_s, lks_nil, lks_cons, ret_some, ret_none, Option.bind_some, Option.map_some, List.length_cons, List.length_nil, if_true, Bool.false_eq_true, if_false, Bool.not_true, Bool.not_false, List.map_cons, List.map_nil, List.cons_append, List.nil_append, List.append_nil, Nat.reduceAdd, Nat.reduceLT, Nat.zero_add, Nat.reduceLeDiff, eq_self, true_and, and_true, e]
  exact ⟨_, rfl⟩
/-! the law's own reckoning -/
def wdS (k wide : Nat) : Option W := if k = 0 then some (.d .none) else iD (wide : Int)
theorem cg_row (z p : Str) (hp : p.length ≤ B0) (hok : PyData.strOk p = true) (o1 o2 o3 o5 : Option W) : compR [6] (nmG 6) yesT (fzc (callE 1 f_x_law_read_number (consA (ooc (eV 6)) nilA))) ((sp1 p).map PyData.str, []) [some (.d (.str z)), o1, o2, o3, some (.d (.str p)), o5, none] = .ok (.fl (rws p)) [some (.d (.str z)), o1, o2, o3, some (.d (.str p)), o5, none] := by
  have cg : compGo ([6] ++ []) (nmG 6) yesT (fzc (callE 1 f_x_law_read_number (consA (ooc (eV 6)) nilA))) ((sp1 p).map PyData.str) (hide ([6] ++ []) [some (.d (.str z)), o1, o2, o3, some (.d (.str p)), o5, none]) = some (rws p, [some (.d (.str z)), o1, o2, o3, some (.d (.str p)), o5, none]) := by
    rw [show hide ([6] ++ []) [some (W.d (.str z)), o1, o2, o3, some (.d (.str p)), o5, none] = [some (W.d (.str z)), o1, o2, o3, some (.d (.str p)), o5, none] from rfl]
    rw [compGo_map _ (fun x => match x with | .str w => fr w | _ => .none)]
    · rw [List.map_map]
      rfl
    · intro x hx
      obtain ⟨q, hq, rfl⟩ := List.mem_map.mp hx
      obtain ⟨ρ, e⟩ := e_read_number q (sp1_len hp hq) (ok_split hok hq)
      refine ⟨[some (.d (.str z)), o1, o2, o3, some (.d (.str p)), o5, some (.d (.str q))], _, [some (.d (.str z)), o1, o2, o3, some (.d (.str p)), o5, some (.d (.str q))], by simp only [gt_0, pt_0, gt_1, gt_2, gt_3, gt_4, gt_5, gt_6, gt_7, gt_8, gt_9, pt_1, pt_2, pt_3, pt_4, pt_5, pt_6, pt_7, pt_8, pt_9, co_d, co_fl, frz_d, frz_fl, sqS_eq, sq_nx, sq_rt, sq_bk, sq_ct, sq_ex, skp_eq, rtS_eq, asS_eq, ifS_eq, exS_eq, raS_eq, fin_rt, fin_nx, fin_ex, eC_eq, oV_eq, oVr_some, eV_eq, eVr_some, eM_eq, eMr_some, op1_eq, op2_eq, opn_eq, nilA_eq, consA_eq, tst_eq, tstB_ok, ifE_eq, ifR_t, ifR_f, andT_eq, orT_eq, andR_t, andR_f, orR_f, orR_t, notT_eq, dsO_nil, dsO_cons, tupE_eq, lstE_eq, tupR_some, lstR_some, callE_eq, callR_ok, callR_ex, ar_v, ar_s, refs_nil, refs_v, refs_s, bk_nil, bk_v, bk_s, bk_e, noP_eq, soP_eq, soB_int, smE_eq, smR_str, slE_eq, binA_i, binS_i, cmpE_i, cmpE_s, cmpE_b, cmpN_i, cmpN_s, cmpN_b, cmpI_i, absD_i, maxD_i, intD_i, intD_b, negD_i, lenD_l, lenD_t, ixD_t0, ixD_t1, fzc_eq, upc_eq, ooc_eq, hide_nil, hide_cons, back_nil, back_cons, bk_v1, bk_v2, nmG_eq, yesT_eq, compE_eq, compK_ok, anyS_eq, anyR_some, srO_v, srO_vs, srO_s, srR_fl, srR_d, srR_str, cmpIn_s, cmpNin_s, cm2_eq, cmR_t, cmR_f, andE_eq, orE_eq, notE_eq, andV_t, andV_f, orV_f, orV_t, notV_b, parS_eq, parR_2, callO_v, callO_vv, callO_vvv, callO_s, callO_sv, callO_svv, slD_l, allD_1, allD_2, isN_eq, forS_eq, forR_nil, enumS_eq, enR_some, isiD_str, lkN_s, lkN_v0, lkN_vi, lkR_0, lkR_i, lkR_fl, lkR_l, lkR_ex, beq_tt, beq_tf, beq_ft, beq_ff, siS_eq, siQ_fl, siR_0, siR_2, ixD_l0, ixD_l1, ixD_l2, bitsD_i, rngS1_eq, bd_ok, bd_ex, bs_ok, bs_ex, fz_d, fz_fl, fz_ex, up_ok, up_ex, oo_ok, oo_ex, lk_v, lk_s, lks_nil, lks_cons, ret_some, ret_none, Option.bind_some, Option.map_some, List.length_cons, List.length_nil, if_true, Bool.false_eq_true, if_false, Bool.not_true, Bool.not_false, List.map_cons, List.map_nil, List.cons_append, List.nil_append, List.append_nil, Nat.reduceAdd, Nat.reduceLT, Nat.zero_add, Nat.reduceLeDiff, eq_self, true_and, and_true], rfl, ?_, rfl⟩
      simp only [gt_0, pt_0, gt_1, gt_2, gt_3, gt_4, gt_5, gt_6, gt_7, gt_8, gt_9, pt_1, pt_2, pt_3, pt_4, pt_5, pt_6, pt_7, pt_8, pt_9, co_d, co_fl, frz_d, frz_fl, sqS_eq, sq_nx, sq_rt, sq_bk, sq_ct, sq_ex, skp_eq, rtS_eq, asS_eq, ifS_eq, exS_eq, raS_eq, fin_rt, fin_nx, fin_ex, eC_eq, oV_eq, oVr_some, eV_eq, eVr_some, eM_eq, eMr_some, op1_eq, op2_eq, opn_eq, nilA_eq, consA_eq, tst_eq, tstB_ok, ifE_eq, ifR_t, ifR_f, andT_eq, orT_eq, andR_t, andR_f, orR_f, orR_t, notT_eq, dsO_nil, dsO_cons, tupE_eq, lstE_eq, tupR_some, lstR_some, callE_eq, callR_ok, callR_ex, ar_v, ar_s, refs_nil, refs_v, refs_s, bk_nil, bk_v, bk_s, bk_e, noP_eq, soP_eq, soB_int, smE_eq, smR_str, slE_eq, binA_i, binS_i, cmpE_i, cmpE_s, cmpE_b, cmpN_i, cmpN_s, cmpN_b, cmpI_i, absD_i, maxD_i, intD_i, intD_b, negD_i, lenD_l, lenD_t, ixD_t0, ixD_t1, fzc_eq, upc_eq, ooc_eq, hide_nil, hide_cons, back_nil, back_cons, bk_v1, bk_v2, nmG_eq, yesT_eq, compE_eq, compK_ok, anyS_eq, anyR_some, srO_v, srO_vs, srO_s, srR_fl, srR_d, srR_str, cmpIn_s, cmpNin_s, cm2_eq, cmR_t, cmR_f, andE_eq, orE_eq, notE_eq, andV_t, andV_f, orV_f, orV_t, notV_b, parS_eq, parR_2, callO_v, callO_vv, callO_vvv, callO_s, callO_sv, callO_svv, slD_l, allD_1, allD_2, isN_eq, forS_eq, forR_nil, enumS_eq, enR_some, isiD_str, lkN_s, lkN_v0, lkN_vi, lkR_0, lkR_i, lkR_fl, lkR_l, lkR_ex, beq_tt, beq_tf, beq_ft, beq_ff, siS_eq, siQ_fl, siR_0, siR_2, ixD_l0, ixD_l1, ixD_l2, bitsD_i, rngS1_eq, bd_ok, bd_ex, bs_ok, bs_ex, fz_d, fz_fl, fz_ex, up_ok, up_ex, oo_ok, oo_ex, lk_v, lk_s, lks_nil, lks_cons, ret_some, ret_none, Option.bind_some, Option.map_some, List.length_cons, List.length_nil, if_true, Bool.false_eq_true, if_false, Bool.not_true, Bool.not_false, List.map_cons, List.map_nil, List.cons_append, List.nil_append, List.append_nil, Nat.reduceAdd, Nat.reduceLT, Nat.zero_add, Nat.reduceLeDiff, eq_self, true_and, and_true, e]
  have hc : ((sp1 p).map PyData.str).length ≤ 16777216 := by rw [List.length_map]; exact sp1_cnt hp
  have cg := compR_ok hc cg
  exact cg
theorem lw_loop (z : Str) (o1 : Option W) : ∀ (zs : List Str) (k wide : Nat) (o3 o4 o5 : Option W), k ≤ 5 → (∀ z ∈ zs, z.length ≤ B0 ∧ PyData.strOk z = true) → ∃ ρ, forGo (tupG 2 (consG (nmG 3) (consG (nmG 4) nilG))) (sqS (asS 5 (compE [6] (nmG 6) yesT (fzc (callE 1 f_x_law_read_number (consA (ooc (eV 6)) nilA))) (anyS (ooc (fzc (smE splitD (oV 4) (ooc (eC (.str " ")))))))))
    (sqS (ifS (orT (tst (op2 (cmpIn false) (ooc (eC .none)) (oV 5))) (orT (notT (tst (cm2 cLe cLe (ooc (eC (.int 2))) (ooc (fzc (opn lenD (consA (oV 5) nilA)))) (ooc (eC (.int 8)))))) (orT (tst (op2 cGt (oV 3) (ooc (eC (.int 4))))) (andT (tst (isN false (oV 2))) (tst (op2 cmpN (ooc (fzc (opn lenD (consA (oV 5) nilA)))) (oV 2))))))) (sqS (rtS (eM 3))
    skp) skp)
    (sqS (asS 2 (opn lenD (consA (oV 5) nilA)))
    skp))) (enumD k (zs.map .str)) [some (.d (.str z)), o1, wdS k wide, o3, o4, o5, none] = endR (wi zs k wide) ρ ∧ (wi zs k wide = none → gt ρ 1 = o1 ∧ lkR (gt ρ 2) = some (k == 0 && zs.isEmpty))
  | [], k, wide, o3, o4, o5, _, _ => ⟨_, rfl, fun _ => ⟨rfl, by unfold wdS; cases k <;> rfl⟩⟩
  | p :: zs, k, wide, o3, o4, o5, hk, h => by
    obtain ⟨hp, hok⟩ := h p List.mem_cons_self
    have hp' : p.length + 2 ≤ 16777216 := by unfold B0 at hp; omega
    have hy : ((" " : Str).length == 0) = false := by decide
    have hsp : Txt.split p " " = sp1 p := rfl
    have cg := fun o1 o2 o3 o5 => cg_row z p hp hok o1 o2 o3 o5
    have tg : tupG 2 (consG (nmG 3) (consG (nmG 4) nilG)) (.tuple [.int (k : Int), .str p]) [some (.d (.str z)), o1, wdS k wide, o3, o4, o5, none] = some [some (.d (.str z)), o1, wdS k wide, iD k, some (.d (.str p)), o5, none] := rfl
    have hin := in_none p
    have e2 : decide ((2 : Int) ≤ ((rws p).length : Int)) = !(decide ((rws p).length < 2)) := by
      rw [Bool.eq_iff_iff]
      simp
      omega
    have e8 : decide (((rws p).length : Int) ≤ 8) = !(decide (8 < (rws p).length)) := by
      rw [Bool.eq_iff_iff]
      simp
      omega
    have e4 : decide ((4 : Int) < (k : Int)) = (k == 5) := by
      rw [Bool.eq_iff_iff]
      simp
      omega
    have ew : (((rws p).length : Int) == (wide : Int)) = ((rws p).length == wide) := cse
    show ∃ ρ, forGo _ _ (.tuple [.int (k : Int), .str p] :: enumD (k + 1) (zs.map .str)) _ = endR (if stopB k wide p = true then some k else wi zs (k + 1) (rws p).length) ρ ∧ ((if stopB k wide p = true then some k else wi zs (k + 1) (rws p).length) = none → gt ρ 1 = o1 ∧ lkR (gt ρ 2) = some (k == 0 && false))
    have yes : stopB k wide p = true → ∀ ρ, (forGo (tupG 2 (consG (nmG 3) (consG (nmG 4) nilG))) (sqS (asS 5 (compE [6] (nmG 6) yesT (fzc (callE 1 f_x_law_read_number (consA (ooc (eV 6)) nilA))) (anyS (ooc (fzc (smE splitD (oV 4) (ooc (eC (.str " ")))))))))
    (sqS (ifS (orT (tst (op2 (cmpIn false) (ooc (eC .none)) (oV 5))) (orT (notT (tst (cm2 cLe cLe (ooc (eC (.int 2))) (ooc (fzc (opn lenD (consA (oV 5) nilA)))) (ooc (eC (.int 8)))))) (orT (tst (op2 cGt (oV 3) (ooc (eC (.int 4))))) (andT (tst (isN false (oV 2))) (tst (op2 cmpN (ooc (fzc (opn lenD (consA (oV 5) nilA)))) (oV 2))))))) (sqS (rtS (eM 3))
    skp) skp)
    (sqS (asS 2 (opn lenD (consA (oV 5) nilA)))
    skp))) (.tuple [.int (k : Int), .str p] :: enumD (k + 1) (zs.map .str)) [some (.d (.str z)), o1, wdS k wide, o3, o4, o5, none] = .rt (.d (.int (k : Int))) ρ) → ∃ ρ, forGo (tupG 2 (consG (nmG 3) (consG (nmG 4) nilG))) (sqS (asS 5 (compE [6] (nmG 6) yesT (fzc (callE 1 f_x_law_read_number (consA (ooc (eV 6)) nilA))) (anyS (ooc (fzc (smE splitD (oV 4) (ooc (eC (.str " ")))))))))
    (sqS (ifS (orT (tst (op2 (cmpIn false) (ooc (eC .none)) (oV 5))) (orT (notT (tst (cm2 cLe cLe (ooc (eC (.int 2))) (ooc (fzc (opn lenD (consA (oV 5) nilA)))) (ooc (eC (.int 8)))))) (orT (tst (op2 cGt (oV 3) (ooc (eC (.int 4))))) (andT (tst (isN false (oV 2))) (tst (op2 cmpN (ooc (fzc (opn lenD (consA (oV 5) nilA)))) (oV 2))))))) (sqS (rtS (eM 3))
    skp) skp)
    (sqS (asS 2 (opn lenD (consA (oV 5) nilA)))
    skp))) (.tuple [.int (k : Int), .str p] :: enumD (k + 1) (zs.map .str)) [some (.d (.str z)), o1, wdS k wide, o3, o4, o5, none] = endR (if stopB k wide p = true then some k else wi zs (k + 1) (rws p).length) ρ ∧ ((if stopB k wide p = true then some k else wi zs (k + 1) (rws p).length) = none → gt ρ 1 = o1 ∧ lkR (gt ρ 2) = some (k == 0 && false)) := fun hs ρ e => by
      rw [if_pos hs]
      exact ⟨ρ, e, fun z => nomatch z⟩
    cases hb : bad p with
    | true =>
      rw [hb] at hin
      have hs : stopB k wide p = true := by unfold stopB; rw [hb]; rfl
      refine yes hs [some (.d (.str z)), o1, wdS k wide, none, some (.d (.str p)), some (.fl (rws p)), none] (forGo_rt tg ?_)
      simp only [gt_0, pt_0, gt_1, gt_2, gt_3, gt_4, gt_5, gt_6, gt_7, gt_8, gt_9, pt_1, pt_2, pt_3, pt_4, pt_5, pt_6, pt_7, pt_8, pt_9, co_d, co_fl, frz_d, frz_fl, sqS_eq, sq_nx, sq_rt, sq_bk, sq_ct, sq_ex, skp_eq, rtS_eq, asS_eq, ifS_eq, exS_eq, raS_eq, fin_rt, fin_nx, fin_ex, eC_eq, oV_eq, oVr_some, eV_eq, eVr_some, eM_eq, eMr_some, op1_eq, op2_eq, opn_eq, nilA_eq, consA_eq, tst_eq, tstB_ok, ifE_eq, ifR_t, ifR_f, andT_eq, orT_eq, andR_t, andR_f, orR_f, orR_t, notT_eq, dsO_nil, dsO_cons, tupE_eq, lstE_eq, tupR_some, lstR_some, callE_eq, callR_ok, callR_ex, ar_v, ar_s, refs_nil, refs_v, refs_s, bk_nil, bk_v, bk_s, bk_e, noP_eq, soP_eq, soB_int, smE_eq, smR_str, slE_eq, binA_i, binS_i, cmpE_i, cmpE_s, cmpE_b, cmpN_i, cmpN_s, cmpN_b, cmpI_i, absD_i, maxD_i, intD_i, intD_b, negD_i, lenD_l, lenD_t, ixD_t0, ixD_t1, fzc_eq, upc_eq, ooc_eq, hide_nil, hide_cons, back_nil, back_cons, bk_v1, bk_v2, nmG_eq, yesT_eq, compE_eq, compK_ok, anyS_eq, anyR_some, srO_v, srO_vs, srO_s, srR_fl, srR_d, srR_str, cmpIn_s, cmpNin_s, cm2_eq, cmR_t, cmR_f, andE_eq, orE_eq, notE_eq, andV_t, andV_f, orV_f, orV_t, notV_b, parS_eq, parR_2, callO_v, callO_vv, callO_vvv, callO_s, callO_sv, callO_svv, slD_l, allD_1, allD_2, isN_eq, forS_eq, forR_nil, enumS_eq, enR_some, isiD_str, lkN_s, lkN_v0, lkN_vi, lkR_0, lkR_i, lkR_fl, lkR_l, lkR_ex, beq_tt, beq_tf, beq_ft, beq_ff, siS_eq, siQ_fl, siR_0, siR_2, ixD_l0, ixD_l1, ixD_l2, bitsD_i, rngS1_eq, bd_ok, bd_ex, bs_ok, bs_ex, fz_d, fz_fl, fz_ex, up_ok, up_ex, oo_ok, oo_ex, lk_v, lk_s, lks_nil, lks_cons, ret_some, ret_none, Option.bind_some, Option.map_some, List.length_cons, List.length_nil, if_true, Bool.false_eq_true, if_false, Bool.not_true, Bool.not_false, List.map_cons, List.map_nil, List.cons_append, List.nil_append, List.append_nil, Nat.reduceAdd, Nat.reduceLT, Nat.zero_add, Nat.reduceLeDiff, eq_self, true_and, and_true, splitD_s hy hp', hsp, cg, hin]
    | false =>
      rw [hb] at hin
      cases h8 : decide (8 < (rws p).length) with
      | true =>
        have hs : stopB k wide p = true := by unfold stopB; rw [hb, h8]; rfl
        rw [h8] at e8
        have h2 : decide ((2 : Int) ≤ ((rws p).length : Int)) = true := by simp at h8 ⊢; omega
        refine yes hs [some (.d (.str z)), o1, wdS k wide, none, some (.d (.str p)), some (.fl (rws p)), none] (forGo_rt tg ?_)
        simp only [gt_0, pt_0, gt_1, gt_2, gt_3, gt_4, gt_5, gt_6, gt_7, gt_8, gt_9, pt_1, pt_2, pt_3, pt_4, pt_5, pt_6, pt_7, pt_8, pt_9, co_d, co_fl, frz_d, frz_fl, sqS_eq, sq_nx, sq_rt, sq_bk, sq_ct, sq_ex, skp_eq, rtS_eq, asS_eq, ifS_eq, exS_eq, raS_eq, fin_rt, fin_nx, fin_ex, eC_eq, oV_eq, oVr_some, eV_eq, eVr_some, eM_eq, eMr_some, op1_eq, op2_eq, opn_eq, nilA_eq, consA_eq, tst_eq, tstB_ok, ifE_eq, ifR_t, ifR_f, andT_eq, orT_eq, andR_t, andR_f, orR_f, orR_t, notT_eq, dsO_nil, dsO_cons, tupE_eq, lstE_eq, tupR_some, lstR_some, callE_eq, callR_ok, callR_ex, ar_v, ar_s, refs_nil, refs_v, refs_s, bk_nil, bk_v, bk_s, bk_e, noP_eq, soP_eq, soB_int, smE_eq, smR_str, slE_eq, binA_i, binS_i, cmpE_i, cmpE_s, cmpE_b, cmpN_i, cmpN_s, cmpN_b, cmpI_i, absD_i, maxD_i, intD_i, intD_b, negD_i, lenD_l, lenD_t, ixD_t0, ixD_t1, fzc_eq, upc_eq, ooc_eq, hide_nil, hide_cons, back_nil, back_cons, bk_v1, bk_v2, nmG_eq, yesT_eq, compE_eq, compK_ok, anyS_eq, anyR_some, srO_v, srO_vs, srO_s, srR_fl, srR_d, srR_str, cmpIn_s, cmpNin_s, cm2_eq, cmR_t, cmR_f, andE_eq, orE_eq, notE_eq, andV_t, andV_f, orV_f, orV_t, notV_b, parS_eq, parR_2, callO_v, callO_vv, callO_vvv, callO_s, callO_sv, callO_svv, slD_l, allD_1, allD_2, isN_eq, forS_eq, forR_nil, enumS_eq, enR_some, isiD_str, lkN_s, lkN_v0, lkN_vi, lkR_0, lkR_i, lkR_fl, lkR_l, lkR_ex, beq_tt, beq_tf, beq_ft, beq_ff, siS_eq, siQ_fl, siR_0, siR_2, ixD_l0, ixD_l1, ixD_l2, bitsD_i, rngS1_eq, bd_ok, bd_ex, bs_ok, bs_ex, fz_d, fz_fl, fz_ex, up_ok, up_ex, oo_ok, oo_ex, lk_v, lk_s, lks_nil, lks_cons, ret_some, ret_none, Option.bind_some, Option.map_some, List.length_cons, List.length_nil, if_true, Bool.false_eq_true, if_false, Bool.not_true, Bool.not_false, List.map_cons, List.map_nil, List.cons_append, List.nil_append, List.append_nil, Nat.reduceAdd, Nat.reduceLT, Nat.zero_add, Nat.reduceLeDiff, eq_self, true_and, and_true, splitD_s hy hp', hsp, cg, hin, h2, e8]
      | false =>
        rw [h8] at e8
        cases h2 : decide ((rws p).length < 2) with
        | true =>
          have hs : stopB k wide p = true := by unfold stopB; rw [hb, h8, h2]; rfl
          rw [h2] at e2
          refine yes hs [some (.d (.str z)), o1, wdS k wide, none, some (.d (.str p)), some (.fl (rws p)), none] (forGo_rt tg ?_)
          simp only [gt_0, pt_0, gt_1, gt_2, gt_3, gt_4, gt_5, gt_6, gt_7, gt_8, gt_9, pt_1, pt_2, pt_3, pt_4, pt_5, pt_6, pt_7, pt_8, pt_9, co_d, co_fl, frz_d, frz_fl, sqS_eq, sq_nx, sq_rt, sq_bk, sq_ct, sq_ex, skp_eq, rtS_eq, asS_eq, ifS_eq, exS_eq, raS_eq, fin_rt, fin_nx, fin_ex, eC_eq, oV_eq, oVr_some, eV_eq, eVr_some, eM_eq, eMr_some, op1_eq, op2_eq, opn_eq, nilA_eq, consA_eq, tst_eq, tstB_ok, ifE_eq, ifR_t, ifR_f, andT_eq, orT_eq, andR_t, andR_f, orR_f, orR_t, notT_eq, dsO_nil, dsO_cons, tupE_eq, lstE_eq, tupR_some, lstR_some, callE_eq, callR_ok, callR_ex, ar_v, ar_s, refs_nil, refs_v, refs_s, bk_nil, bk_v, bk_s, bk_e, noP_eq, soP_eq, soB_int, smE_eq, smR_str, slE_eq, binA_i, binS_i, cmpE_i, cmpE_s, cmpE_b, cmpN_i, cmpN_s, cmpN_b, cmpI_i, absD_i, maxD_i, intD_i, intD_b, negD_i, lenD_l, lenD_t, ixD_t0, ixD_t1, fzc_eq, upc_eq, ooc_eq, hide_nil, hide_cons, back_nil, back_cons, bk_v1, bk_v2, nmG_eq, yesT_eq, compE_eq, compK_ok, anyS_eq, anyR_some, srO_v, srO_vs, srO_s, srR_fl, srR_d, srR_str, cmpIn_s, cmpNin_s, cm2_eq, cmR_t, cmR_f, andE_eq, orE_eq, notE_eq, andV_t, andV_f, orV_f, orV_t, notV_b, parS_eq, parR_2, callO_v, callO_vv, callO_vvv, callO_s, callO_sv, callO_svv, slD_l, allD_1, allD_2, isN_eq, forS_eq, forR_nil, enumS_eq, enR_some, isiD_str, lkN_s, lkN_v0, lkN_vi, lkR_0, lkR_i, lkR_fl, lkR_l, lkR_ex, beq_tt, beq_tf, beq_ft, beq_ff, siS_eq, siQ_fl, siR_0, siR_2, ixD_l0, ixD_l1, ixD_l2, bitsD_i, rngS1_eq, bd_ok, bd_ex, bs_ok, bs_ex, fz_d, fz_fl, fz_ex, up_ok, up_ex, oo_ok, oo_ex, lk_v, lk_s, lks_nil, lks_cons, ret_some, ret_none, Option.bind_some, Option.map_some, List.length_cons, List.length_nil, if_true, Bool.false_eq_true, if_false, Bool.not_true, Bool.not_false, List.map_cons, List.map_nil, List.cons_append, List.nil_append, List.append_nil, Nat.reduceAdd, Nat.reduceLT, Nat.zero_add, Nat.reduceLeDiff, eq_self, true_and, and_true, splitD_s hy hp', hsp, cg, hin, e2, e8]
        | false =>
          rw [h2] at e2
          cases h5 : (k == 5) with
          | true =>
            have hs : stopB k wide p = true := by unfold stopB; rw [hb, h8, h2, h5]; rfl
            rw [h5] at e4
            refine yes hs [some (.d (.str z)), o1, wdS k wide, none, some (.d (.str p)), some (.fl (rws p)), none] (forGo_rt tg ?_)
            simp only [gt_0, pt_0, gt_1, gt_2, gt_3, gt_4, gt_5, gt_6, gt_7, gt_8, gt_9, pt_1, pt_2, pt_3, pt_4, pt_5, pt_6, pt_7, pt_8, pt_9, co_d, co_fl, frz_d, frz_fl, sqS_eq, sq_nx, sq_rt, sq_bk, sq_ct, sq_ex, skp_eq, rtS_eq, asS_eq, ifS_eq, exS_eq, raS_eq, fin_rt, fin_nx, fin_ex, eC_eq, oV_eq, oVr_some, eV_eq, eVr_some, eM_eq, eMr_some, op1_eq, op2_eq, opn_eq, nilA_eq, consA_eq, tst_eq, tstB_ok, ifE_eq, ifR_t, ifR_f, andT_eq, orT_eq, andR_t, andR_f, orR_f, orR_t, notT_eq, dsO_nil, dsO_cons, tupE_eq, lstE_eq, tupR_some, lstR_some, callE_eq, callR_ok, callR_ex, ar_v, ar_s, refs_nil, refs_v, refs_s, bk_nil, bk_v, bk_s, bk_e, noP_eq, soP_eq, soB_int, smE_eq, smR_str, slE_eq, binA_i, binS_i, cmpE_i, cmpE_s, cmpE_b, cmpN_i, cmpN_s, cmpN_b, cmpI_i, absD_i, maxD_i, intD_i, intD_b, negD_i, lenD_l, lenD_t, ixD_t0, ixD_t1, fzc_eq, upc_eq, ooc_eq, hide_nil, hide_cons, back_nil, back_cons, bk_v1, bk_v2, nmG_eq, yesT_eq, compE_eq, compK_ok, anyS_eq, anyR_some, srO_v, srO_vs, srO_s, srR_fl, srR_d, srR_str, cmpIn_s, cmpNin_s, cm2_eq, cmR_t, cmR_f, andE_eq, orE_eq, notE_eq, andV_t, andV_f, orV_f, orV_t, notV_b, parS_eq, parR_2, callO_v, callO_vv, callO_vvv, callO_s, callO_sv, callO_svv, slD_l, allD_1, allD_2, isN_eq, forS_eq, forR_nil, enumS_eq, enR_some, isiD_str, lkN_s, lkN_v0, lkN_vi, lkR_0, lkR_i, lkR_fl, lkR_l, lkR_ex, beq_tt, beq_tf, beq_ft, beq_ff, siS_eq, siQ_fl, siR_0, siR_2, ixD_l0, ixD_l1, ixD_l2, bitsD_i, rngS1_eq, bd_ok, bd_ex, bs_ok, bs_ex, fz_d, fz_fl, fz_ex, up_ok, up_ex, oo_ok, oo_ex, lk_v, lk_s, lks_nil, lks_cons, ret_some, ret_none, Option.bind_some, Option.map_some, List.length_cons, List.length_nil, if_true, Bool.false_eq_true, if_false, Bool.not_true, Bool.not_false, List.map_cons, List.map_nil, List.cons_append, List.nil_append, List.append_nil, Nat.reduceAdd, Nat.reduceLT, Nat.zero_add, Nat.reduceLeDiff, eq_self, true_and, and_true, splitD_s hy hp', hsp, cg, hin, e2, e8, e4]
          | false =>
            rw [h5] at e4
            have hk5 : k ≠ 5 := by simpa using h5
            obtain ⟨ρ, ih, ih2⟩ := lw_loop z o1 zs (k + 1) (rws p).length (iD k) (some (.d (.str p))) (some (.fl (rws p))) (by omega) fun y hy => h y (List.mem_cons_of_mem _ hy)
            have hw1 : wdS (k + 1) (rws p).length = iD ((rws p).length : Int) := by unfold wdS; rw [if_neg (Nat.succ_ne_zero k)]
            rw [hw1] at ih
            have ih3 : wi zs (k + 1) (rws p).length = none → gt ρ 1 = o1 ∧ lkR (gt ρ 2) = some (k == 0 && false) := fun q => by
              obtain ⟨q1, q2⟩ := ih2 q
              refine ⟨q1, q2.trans ?_⟩
              rw [Bool.and_false]
              simp
            by_cases hk0 : k = 0
            · subst hk0
              have hs : stopB 0 wide p = false := by unfold stopB; rw [hb, h8, h2]; rfl
              rw [hs]
              simp only [Bool.false_eq_true, if_false]
              have hw0 : wdS 0 wide = some (.d .none) := rfl
              rw [hw0] at tg ⊢
              refine ⟨ρ, (forGo_nx tg ?_).trans ih, ih3⟩
              simp only [gt_0, pt_0, gt_1, gt_2, gt_3, gt_4, gt_5, gt_6, gt_7, gt_8, gt_9, pt_1, pt_2, pt_3, pt_4, pt_5, pt_6, pt_7, pt_8, pt_9, co_d, co_fl, frz_d, frz_fl, sqS_eq, sq_nx, sq_rt, sq_bk, sq_ct, sq_ex, skp_eq, rtS_eq, asS_eq, ifS_eq, exS_eq, raS_eq, fin_rt, fin_nx, fin_ex, eC_eq, oV_eq, oVr_some, eV_eq, eVr_some, eM_eq, eMr_some, op1_eq, op2_eq, opn_eq, nilA_eq, consA_eq, tst_eq, tstB_ok, ifE_eq, ifR_t, ifR_f, andT_eq, orT_eq, andR_t, andR_f, orR_f, orR_t, notT_eq, dsO_nil, dsO_cons, tupE_eq, lstE_eq, tupR_some, lstR_some, callE_eq, callR_ok, callR_ex, ar_v, ar_s, refs_nil, refs_v, refs_s, bk_nil, bk_v, bk_s, bk_e, noP_eq, soP_eq, soB_int, smE_eq, smR_str, slE_eq, binA_i, binS_i, cmpE_i, cmpE_s, cmpE_b, cmpN_i, cmpN_s, cmpN_b, cmpI_i, absD_i, maxD_i, intD_i, intD_b, negD_i, lenD_l, lenD_t, ixD_t0, ixD_t1, fzc_eq, upc_eq, ooc_eq, hide_nil, hide_cons, back_nil, back_cons, bk_v1, bk_v2, nmG_eq, yesT_eq, compE_eq, compK_ok, anyS_eq, anyR_some, srO_v, srO_vs, srO_s, srR_fl, srR_d, srR_str, cmpIn_s, cmpNin_s, cm2_eq, cmR_t, cmR_f, andE_eq, orE_eq, notE_eq, andV_t, andV_f, orV_f, orV_t, notV_b, parS_eq, parR_2, callO_v, callO_vv, callO_vvv, callO_s, callO_sv, callO_svv, slD_l, allD_1, allD_2, isN_eq, forS_eq, forR_nil, enumS_eq, enR_some, isiD_str, lkN_s, lkN_v0, lkN_vi, lkR_0, lkR_i, lkR_fl, lkR_l, lkR_ex, beq_tt, beq_tf, beq_ft, beq_ff, siS_eq, siQ_fl, siR_0, siR_2, ixD_l0, ixD_l1, ixD_l2, bitsD_i, rngS1_eq, bd_ok, bd_ex, bs_ok, bs_ex, fz_d, fz_fl, fz_ex, up_ok, up_ex, oo_ok, oo_ex, lk_v, lk_s, lks_nil, lks_cons, ret_some, ret_none, Option.bind_some, Option.map_some, List.length_cons, List.length_nil, if_true, Bool.false_eq_true, if_false, Bool.not_true, Bool.not_false, List.map_cons, List.map_nil, List.cons_append, List.nil_append, List.append_nil, Nat.reduceAdd, Nat.reduceLT, Nat.zero_add, Nat.reduceLeDiff, eq_self, true_and, and_true, splitD_s hy hp', hsp, cg, hin, e2, e8, e4]
            · have hwk : wdS k wide = iD (wide : Int) := by unfold wdS; rw [if_neg hk0]
              have h0 : decide (0 < k) = true := by simp; omega
              cases hw : ((rws p).length == wide) with
              | false =>
                have hs : stopB k wide p = true := by unfold stopB; rw [hb, h8, h2, h5, h0, hw]; rfl
                refine yes hs [some (.d (.str z)), o1, wdS k wide, none, some (.d (.str p)), some (.fl (rws p)), none] (forGo_rt tg ?_)
                rw [hwk]
                simp only [gt_0, pt_0, gt_1, gt_2, gt_3, gt_4, gt_5, gt_6, gt_7, gt_8, gt_9, pt_1, pt_2, pt_3, pt_4, pt_5, pt_6, pt_7, pt_8, pt_9, co_d, co_fl, frz_d, frz_fl, sqS_eq, sq_nx, sq_rt, sq_bk, sq_ct, sq_ex, skp_eq, rtS_eq, asS_eq, ifS_eq, exS_eq, raS_eq, fin_rt, fin_nx, fin_ex, eC_eq, oV_eq, oVr_some, eV_eq, eVr_some, eM_eq, eMr_some, op1_eq, op2_eq, opn_eq, nilA_eq, consA_eq, tst_eq, tstB_ok, ifE_eq, ifR_t, ifR_f, andT_eq, orT_eq, andR_t, andR_f, orR_f, orR_t, notT_eq, dsO_nil, dsO_cons, tupE_eq, lstE_eq, tupR_some, lstR_some, callE_eq, callR_ok, callR_ex, ar_v, ar_s, refs_nil, refs_v, refs_s, bk_nil, bk_v, bk_s, bk_e, noP_eq, soP_eq, soB_int, smE_eq, smR_str, slE_eq, binA_i, binS_i, cmpE_i, cmpE_s, cmpE_b, cmpN_i, cmpN_s, cmpN_b, cmpI_i, absD_i, maxD_i, intD_i, intD_b, negD_i, lenD_l, lenD_t, ixD_t0, ixD_t1, fzc_eq, upc_eq, ooc_eq, hide_nil, hide_cons, back_nil, back_cons, bk_v1, bk_v2, nmG_eq, yesT_eq, compE_eq, compK_ok, anyS_eq, anyR_some, srO_v, srO_vs, srO_s, srR_fl, srR_d, srR_str, cmpIn_s, cmpNin_s, cm2_eq, cmR_t, cmR_f, andE_eq, orE_eq, notE_eq, andV_t, andV_f, orV_f, orV_t, notV_b, parS_eq, parR_2, callO_v, callO_vv, callO_vvv, callO_s, callO_sv, callO_svv, slD_l, allD_1, allD_2, isN_eq, forS_eq, forR_nil, enumS_eq, enR_some, isiD_str, lkN_s, lkN_v0, lkN_vi, lkR_0, lkR_i, lkR_fl, lkR_l, lkR_ex, beq_tt, beq_tf, beq_ft, beq_ff, siS_eq, siQ_fl, siR_0, siR_2, ixD_l0, ixD_l1, ixD_l2, bitsD_i, rngS1_eq, bd_ok, bd_ex, bs_ok, bs_ex, fz_d, fz_fl, fz_ex, up_ok, up_ex, oo_ok, oo_ex, lk_v, lk_s, lks_nil, lks_cons, ret_some, ret_none, Option.bind_some, Option.map_some, List.length_cons, List.length_nil, if_true, Bool.false_eq_true, if_false, Bool.not_true, Bool.not_false, List.map_cons, List.map_nil, List.cons_append, List.nil_append, List.append_nil, Nat.reduceAdd, Nat.reduceLT, Nat.zero_add, Nat.reduceLeDiff, eq_self, true_and, and_true, splitD_s hy hp', hsp, cg, hin, e2, e8, e4, ew, hw]
              | true =>
                have hs : stopB k wide p = false := by unfold stopB; rw [hb, h8, h2, h5, h0, hw]; rfl
                rw [hs]
                simp only [Bool.false_eq_true, if_false]
                rw [hwk] at tg ⊢
                refine ⟨ρ, (forGo_nx tg ?_).trans ih, ih3⟩
                simp only [gt_0, pt_0, gt_1, gt_2, gt_3, gt_4, gt_5, gt_6, gt_7, gt_8, gt_9, pt_1, pt_2, pt_3, pt_4, pt_5, pt_6, pt_7, pt_8, pt_9, co_d, co_fl, frz_d, frz_fl, sqS_eq, sq_nx, sq_rt, sq_bk, sq_ct, sq_ex, skp_eq, rtS_eq, asS_eq, ifS_eq, exS_eq, raS_eq, fin_rt, fin_nx, fin_ex, eC_eq, oV_eq, oVr_some, eV_eq, eVr_some, eM_eq, eMr_some, op1_eq, op2_eq, opn_eq, nilA_eq, consA_eq, tst_eq, tstB_ok, ifE_eq, ifR_t, ifR_f, andT_eq, orT_eq, andR_t, andR_f, orR_f, orR_t, notT_eq, dsO_nil, dsO_cons, tupE_eq, lstE_eq, tupR_some, lstR_some, callE_eq, callR_ok, callR_ex, ar_v, ar_s, refs_nil, refs_v, refs_s, bk_nil, bk_v, bk_s, bk_e, noP_eq, soP_eq, soB_int, smE_eq, smR_str, slE_eq, binA_i, binS_i, cmpE_i, cmpE_s, cmpE_b, cmpN_i, cmpN_s, cmpN_b, cmpI_i, absD_i, maxD_i, intD_i, intD_b, negD_i, lenD_l, lenD_t, ixD_t0, ixD_t1, fzc_eq, upc_eq, ooc_eq, hide_nil, hide_cons, back_nil, back_cons, bk_v1, bk_v2, nmG_eq, yesT_eq, compE_eq, compK_ok, anyS_eq, anyR_some, srO_v, srO_vs, srO_s, srR_fl, srR_d, srR_str, cmpIn_s, cmpNin_s, cm2_eq, cmR_t, cmR_f, andE_eq, orE_eq, notE_eq, andV_t, andV_f, orV_f, orV_t, notV_b, parS_eq, parR_2, callO_v, callO_vv, callO_vvv, callO_s, callO_sv, callO_svv, slD_l, allD_1, allD_2, isN_eq, forS_eq, forR_nil, enumS_eq, enR_some, isiD_str, lkN_s, lkN_v0, lkN_vi, lkR_0, lkR_i, lkR_fl, lkR_l, lkR_ex, beq_tt, beq_tf, beq_ft, beq_ff, siS_eq, siQ_fl, siR_0, siR_2, ixD_l0, ixD_l1, ixD_l2, bitsD_i, rngS1_eq, bd_ok, bd_ex, bs_ok, bs_ex, fz_d, fz_fl, fz_ex, up_ok, up_ex, oo_ok, oo_ex, lk_v, lk_s, lks_nil, lks_cons, ret_some, ret_none, Option.bind_some, Option.map_some, List.length_cons, List.length_nil, if_true, Bool.false_eq_true, if_false, Bool.not_true, Bool.not_false, List.map_cons, List.map_nil, List.cons_append, List.nil_append, List.append_nil, Nat.reduceAdd, Nat.reduceLT, Nat.zero_add, Nat.reduceLeDiff, eq_self, true_and, and_true, splitD_s hy hp', hsp, cg, hin, e2, e8, e4, ew, hw]
theorem e_law_wrong (z : Str) (hz : z.length ≤ B0) (hok : PyData.strOk z = true) : ∃ ρ, f_x_law_wrong [some (.d (.str z))] = .ok (.d (optD (wb z))) ρ := by
  rw [show f_x_law_wrong [some (.d (.str z))] = finR 1 [1, 2, 3, 4, 5] (s_x_law_wrong [some (.d (.str z)), none, none, none, none, none, none]) from bodyR_eq ..]
  unfold s_x_law_wrong
  have hz' : z.length + 2 ≤ 16777216 := by unfold B0 at hz; omega
  have hy : (("\n" : Str).length == 0) = false := by decide
  have hci : Ev.cutD ((lns z).map PyData.str) none (some (-1)) = (lns z).dropLast.map PyData.str := by rw [cut_init, List.map_dropLast]
  have hl : (((lns z).map PyData.str).length : Int) = ((lns z).length : Int) := by rw [List.length_map]
  have il : ixD (.list ((lns z).map PyData.str)) (.int (-1)) = some (.d (.str (lst z))) := ixD_l (at_last z)
  have hm : ((lns z).length : Int) - 1 = (((lns z).length - 1 : Nat) : Int) := by have := lns_pos z; omega
  have hsp : Txt.split z "\n" = lns z := rfl
  obtain ⟨ρ, e, e2⟩ := lw_loop z (some (.d (.list ((lns z).map .str)))) (lns z).dropLast 0 0 none none none (by decide) fun p hp => ⟨init_len hz p hp, ok_split hok (List.dropLast_subset _ hp)⟩
  have hw0 : wdS 0 0 = some (.d .none) := rfl
  rw [hw0] at e
  have he : (lns z).dropLast.isEmpty = decide ((lns z).length < 2) := by
    rw [Bool.eq_iff_iff, List.isEmpty_iff]
    simp only [decide_eq_true_eq]
    rw [← List.length_eq_zero_iff, List.length_dropLast]
    omega
  simp only [gt_0, pt_0, gt_1, gt_2, gt_3, gt_4, gt_5, gt_6, gt_7, gt_8, gt_9, pt_1, pt_2, pt_3, pt_4, pt_5, pt_6, pt_7, pt_8, pt_9, co_d, co_fl, frz_d, frz_fl, sqS_eq, sq_nx, sq_rt, sq_bk, sq_ct, sq_ex, skp_eq, rtS_eq, asS_eq, ifS_eq, exS_eq, raS_eq, fin_rt, fin_nx, fin_ex, eC_eq, oV_eq, oVr_some, eV_eq, eVr_some, eM_eq, eMr_some, op1_eq, op2_eq, opn_eq, nilA_eq, consA_eq, tst_eq, tstB_ok, ifE_eq, ifR_t, ifR_f, andT_eq, orT_eq, andR_t, andR_f, orR_f, orR_t, notT_eq, dsO_nil, dsO_cons, tupE_eq, lstE_eq, tupR_some, lstR_some, callE_eq, callR_ok, callR_ex, ar_v, ar_s, refs_nil, refs_v, refs_s, bk_nil, bk_v, bk_s, bk_e, noP_eq, soP_eq, soB_int, smE_eq, smR_str, slE_eq, binA_i, binS_i, cmpE_i, cmpE_s, cmpE_b, cmpN_i, cmpN_s, cmpN_b, cmpI_i, absD_i, maxD_i, intD_i, intD_b, negD_i, lenD_l, lenD_t, ixD_t0, ixD_t1, fzc_eq, upc_eq, ooc_eq, hide_nil, hide_cons, back_nil, back_cons, bk_v1, bk_v2, nmG_eq, yesT_eq, compE_eq, compK_ok, anyS_eq, anyR_some, srO_v, srO_vs, srO_s, srR_fl, srR_d, srR_str, cmpIn_s, cmpNin_s, cm2_eq, cmR_t, cmR_f, andE_eq, orE_eq, notE_eq, andV_t, andV_f, orV_f, orV_t, notV_b, parS_eq, parR_2, callO_v, callO_vv, callO_vvv, callO_s, callO_sv, callO_svv, slD_l, allD_1, allD_2, isN_eq, forS_eq, forR_nil, enumS_eq, enR_some, isiD_str, lkN_s, lkN_v0, lkN_vi, lkR_0, lkR_i, lkR_fl, lkR_l, lkR_ex, beq_tt, beq_tf, beq_ft, beq_ff, siS_eq, siQ_fl, siR_0, siR_2, ixD_l0, ixD_l1, ixD_l2, bitsD_i, rngS1_eq, bd_ok, bd_ex, bs_ok, bs_ex, fz_d, fz_fl, fz_ex, up_ok, up_ex, oo_ok, oo_ex, lk_v, lk_s, lks_nil, lks_cons, ret_some, ret_none, Option.bind_some, Option.map_some, List.length_cons, List.length_nil, if_true, Bool.false_eq_true, if_false, Bool.not_true, Bool.not_false, List.map_cons, List.map_nil, List.cons_append, List.nil_append, List.append_nil, Nat.reduceAdd, Nat.reduceLT, Nat.zero_add, Nat.reduceLeDiff, eq_self, true_and, and_true, splitD_s hy hz', hsp, hci]
  rw [e]
  unfold wb
  cases hw : wi (lns z).dropLast 0 0 with
  | some n => exact ⟨_, rfl⟩
  | none =>
    obtain ⟨g1, g2⟩ := e2 hw
    rw [he] at g2
    show ∃ ρ', finR 1 [1, 2, 3, 4, 5] (sq (.nx ρ) _) = _
    cases h3 : (lst z == ("" : Str)) with
    | false =>
      simp only [gt_0, pt_0, gt_1, gt_2, gt_3, gt_4, gt_5, gt_6, gt_7, gt_8, gt_9, pt_1, pt_2, pt_3, pt_4, pt_5, pt_6, pt_7, pt_8, pt_9, co_d, co_fl, frz_d, frz_fl, sqS_eq, sq_nx, sq_rt, sq_bk, sq_ct, sq_ex, skp_eq, rtS_eq, asS_eq, ifS_eq, exS_eq, raS_eq, fin_rt, fin_nx, fin_ex, eC_eq, oV_eq, oVr_some, eV_eq, eVr_some, eM_eq, eMr_some, op1_eq, op2_eq, opn_eq, nilA_eq, consA_eq, tst_eq, tstB_ok, ifE_eq, ifR_t, ifR_f, andT_eq, orT_eq, andR_t, andR_f, orR_f, orR_t, notT_eq, dsO_nil, dsO_cons, tupE_eq, lstE_eq, tupR_some, lstR_some, callE_eq, callR_ok, callR_ex, ar_v, ar_s, refs_nil, refs_v, refs_s, bk_nil, bk_v, bk_s, bk_e, noP_eq, soP_eq, soB_int, smE_eq, smR_str, slE_eq, binA_i, binS_i, cmpE_i, cmpE_s, cmpE_b, cmpN_i, cmpN_s, cmpN_b, cmpI_i, absD_i, maxD_i, intD_i, intD_b, negD_i, lenD_l, lenD_t, ixD_t0, ixD_t1, fzc_eq, upc_eq, ooc_eq, hide_nil, hide_cons, back_nil, back_cons, bk_v1, bk_v2, nmG_eq, yesT_eq, compE_eq, compK_ok, anyS_eq, anyR_some, srO_v, srO_vs, srO_s, srR_fl, srR_d, srR_str, cmpIn_s, cmpNin_s, cm2_eq, cmR_t, cmR_f, andE_eq, orE_eq, notE_eq, andV_t, andV_f, orV_f, orV_t, notV_b, parS_eq, parR_2, callO_v, callO_vv, callO_vvv, callO_s, callO_sv, callO_svv, slD_l, allD_1, allD_2, isN_eq, forS_eq, forR_nil, enumS_eq, enR_some, isiD_str, lkN_s, lkN_v0, lkN_vi, lkR_0, lkR_i, lkR_fl, lkR_l, lkR_ex, beq_tt, beq_tf, beq_ft, beq_ff, siS_eq, siQ_fl, siR_0, siR_2, ixD_l0, ixD_l1, ixD_l2, bitsD_i, rngS1_eq, bd_ok, bd_ex, bs_ok, bs_ex, fz_d, fz_fl, fz_ex, up_ok, up_ex, oo_ok, oo_ex, lk_v, lk_s, lks_nil, lks_cons, ret_some, ret_none, Option.bind_some, Option.map_some, List.length_cons, List.length_nil, if_true, Bool.false_eq_true, if_false, Bool.not_true, Bool.not_false, List.map_cons, List.map_nil, List.cons_append, List.nil_append, List.append_nil, Nat.reduceAdd, Nat.reduceLT, Nat.zero_add, Nat.reduceLeDiff, eq_self, true_and, and_true, g1, il, h3, hl, hm, Bool.true_or]
      exact ⟨_, rfl⟩
    | true =>
      cases h4 : decide ((lns z).length < 2)
      all_goals
        rw [h4] at g2
        simp only [BEq.rfl, Bool.true_and] at g2
        obtain ⟨w2, hw2⟩ : ∃ w2, gt ρ 2 = some w2 := by
          cases q : gt ρ 2 with
          | none => rw [q] at g2; cases g2
          | some w2 => exact ⟨w2, rfl⟩
        rw [hw2] at g2
        simp only [gt_0, pt_0, gt_1, gt_2, gt_3, gt_4, gt_5, gt_6, gt_7, gt_8, gt_9, pt_1, pt_2, pt_3, pt_4, pt_5, pt_6, pt_7, pt_8, pt_9, co_d, co_fl, frz_d, frz_fl, sqS_eq, sq_nx, sq_rt, sq_bk, sq_ct, sq_ex, skp_eq, rtS_eq, asS_eq, ifS_eq, exS_eq, raS_eq, fin_rt, fin_nx, fin_ex, eC_eq, oV_eq, oVr_some, eV_eq, eVr_some, eM_eq, eMr_some, op1_eq, op2_eq, opn_eq, nilA_eq, consA_eq, tst_eq, tstB_ok, ifE_eq, ifR_t, ifR_f, andT_eq, orT_eq, andR_t, andR_f, orR_f, orR_t, notT_eq, dsO_nil, dsO_cons, tupE_eq, lstE_eq, tupR_some, lstR_some, callE_eq, callR_ok, callR_ex, ar_v, ar_s, refs_nil, refs_v, refs_s, bk_nil, bk_v, bk_s, bk_e, noP_eq, soP_eq, soB_int, smE_eq, smR_str, slE_eq, binA_i, binS_i, cmpE_i, cmpE_s, cmpE_b, cmpN_i, cmpN_s, cmpN_b, cmpI_i, absD_i, maxD_i, intD_i, intD_b, negD_i, lenD_l, lenD_t, ixD_t0, ixD_t1, fzc_eq, upc_eq, ooc_eq, hide_nil, hide_cons, back_nil, back_cons, bk_v1, bk_v2, nmG_eq, yesT_eq, compE_eq, compK_ok, anyS_eq, anyR_some, srO_v, srO_vs, srO_s, srR_fl, srR_d, srR_str, cmpIn_s, cmpNin_s, cm2_eq, cmR_t, cmR_f, andE_eq, orE_eq, notE_eq, andV_t, andV_f, orV_f, orV_t, notV_b, parS_eq, parR_2, callO_v, callO_vv, callO_vvv, callO_s, callO_sv, callO_svv, slD_l, allD_1, allD_2, isN_eq, forS_eq, forR_nil, enumS_eq, enR_some, isiD_str, lkN_s, lkN_v0, lkN_vi, lkR_0, lkR_i, lkR_fl, lkR_l, lkR_ex, beq_tt, beq_tf, beq_ft, beq_ff, siS_eq, siQ_fl, siR_0, siR_2, ixD_l0, ixD_l1, ixD_l2, bitsD_i, rngS1_eq, bd_ok, bd_ex, bs_ok, bs_ex, fz_d, fz_fl, fz_ex, up_ok, up_ex, oo_ok, oo_ex, lk_v, lk_s, lks_nil, lks_cons, ret_some, ret_none, Option.bind_some, Option.map_some, List.length_cons, List.length_nil, if_true, Bool.false_eq_true, if_false, Bool.not_true, Bool.not_false, List.map_cons, List.map_nil, List.cons_append, List.nil_append, List.append_nil, Nat.reduceAdd, Nat.reduceLT, Nat.zero_add, Nat.reduceLeDiff, eq_self, true_and, and_true, g1, hw2, g2, il, h3, hl, hm, Bool.false_or]
        exact ⟨_, rfl⟩
/-- read_table: the rows, or the error -/
theorem e_read_table (z : Str) (hz : z.length ≤ B0) : (wb z = none → ∃ w ρ, f_read_table [some (.d (.str z))] = .ok w ρ) ∧ (wb z ≠ none → ∃ ρ, f_read_table [some (.d (.str z))] = .ex 0 (.str z) ρ) := by
  rw [show f_read_table [some (.d (.str z))] = finR 1 [] (s_read_table [some (.d (.str z)), none]) from bodyR_eq ..]
  unfold s_read_table
  obtain ⟨ρ, e⟩ := e_wrong_by z hz
  constructor
  · intro hw
    rw [hw] at e
    simp only [optD] at e
    have hz' : z.length + 2 ≤ 16777216 := by unfold B0 at hz; omega
    have hy : (("\n" : Str).length == 0) = false := by decide
    have hci : Ev.cutD ((lns z).map PyData.str) none (some (-1)) = (lns z).dropLast.map PyData.str := by rw [cut_init, List.map_dropLast]
    have hsp : Txt.split z "\n" = lns z := rfl
    have cg : compGo ([1] ++ []) (nmG 1) yesT (fzc (callE 1 f_row_told (consA (ooc (eV 1)) nilA))) ((lns z).dropLast.map PyData.str) (hide ([1] ++ []) [some (.d (.str z)), none]) = some (((lns z).dropLast.map PyData.str).map (fun x => match x with | .str w => (if (bad w || decide (8 < (rws w).length)) = true then .none else .list (rws w)) | _ => .none), [some (.d (.str z)), none]) := by
      rw [show hide ([1] ++ []) [some (W.d (.str z)), none] = [some (W.d (.str z)), none] from rfl]
      refine compGo_map _ _ fun x hx => ?_
      obtain ⟨p, hp, rfl⟩ := List.mem_map.mp hx
      obtain ⟨ρ, e⟩ := e_row_told p (init_len hz p hp)
      refine ⟨[some (.d (.str z)), some (.d (.str p))], _, [some (.d (.str z)), some (.d (.str p))], by simp only [gt_0, pt_0, gt_1, gt_2, gt_3, gt_4, gt_5, gt_6, gt_7, gt_8, gt_9, pt_1, pt_2, pt_3, pt_4, pt_5, pt_6, pt_7, pt_8, pt_9, co_d, co_fl, frz_d, frz_fl, sqS_eq, sq_nx, sq_rt, sq_bk, sq_ct, sq_ex, skp_eq, rtS_eq, asS_eq, ifS_eq, exS_eq, raS_eq, fin_rt, fin_nx, fin_ex, eC_eq, oV_eq, oVr_some, eV_eq, eVr_some, eM_eq, eMr_some, op1_eq, op2_eq, opn_eq, nilA_eq, consA_eq, tst_eq, tstB_ok, ifE_eq, ifR_t, ifR_f, andT_eq, orT_eq, andR_t, andR_f, orR_f, orR_t, notT_eq, dsO_nil, dsO_cons, tupE_eq, lstE_eq, tupR_some, lstR_some, callE_eq, callR_ok, callR_ex, ar_v, ar_s, refs_nil, refs_v, refs_s, bk_nil, bk_v, bk_s, bk_e, noP_eq, soP_eq, soB_int, smE_eq, smR_str, slE_eq, binA_i, binS_i, cmpE_i, cmpE_s, cmpE_b, cmpN_i, cmpN_s, cmpN_b, cmpI_i, absD_i, maxD_i, intD_i, intD_b, negD_i, lenD_l, lenD_t, ixD_t0, ixD_t1, fzc_eq, upc_eq, ooc_eq, hide_nil, hide_cons, back_nil, back_cons, bk_v1, bk_v2, nmG_eq, yesT_eq, compE_eq, compK_ok, anyS_eq, anyR_some, srO_v, srO_vs, srO_s, srR_fl, srR_d, srR_str, cmpIn_s, cmpNin_s, cm2_eq, cmR_t, cmR_f, andE_eq, orE_eq, notE_eq, andV_t, andV_f, orV_f, orV_t, notV_b, parS_eq, parR_2, callO_v, callO_vv, callO_vvv, callO_s, callO_sv, callO_svv, slD_l, allD_1, allD_2, isN_eq, forS_eq, forR_nil, enumS_eq, enR_some, isiD_str, lkN_s, lkN_v0, lkN_vi, lkR_0, lkR_i, lkR_fl, lkR_l, lkR_ex, beq_tt, beq_tf, beq_ft, beq_ff, siS_eq, siQ_fl, siR_0, siR_2, ixD_l0, ixD_l1, ixD_l2, bitsD_i, rngS1_eq, bd_ok, bd_ex, bs_ok, bs_ex, fz_d, fz_fl, fz_ex, up_ok, up_ex, oo_ok, oo_ex, lk_v, lk_s, lks_nil, lks_cons, ret_some, ret_none, Option.bind_some, Option.map_some, List.length_cons, List.length_nil, if_true, Bool.false_eq_true, if_false, Bool.not_true, Bool.not_false, List.map_cons, List.map_nil, List.cons_append, List.nil_append, List.append_nil, Nat.reduceAdd, Nat.reduceLT, Nat.zero_add, Nat.reduceLeDiff, eq_self, true_and, and_true], rfl, ?_, rfl⟩
      cases hb : (bad p || decide (8 < (rws p).length))
      all_goals
        rw [hb] at e
        simp only [Bool.false_eq_true, if_false, if_true] at e
        simp only [gt_0, pt_0, gt_1, gt_2, gt_3, gt_4, gt_5, gt_6, gt_7, gt_8, gt_9, pt_1, pt_2, pt_3, pt_4, pt_5, pt_6, pt_7, pt_8, pt_9, co_d, co_fl, frz_d, frz_fl, sqS_eq, sq_nx, sq_rt, sq_bk, sq_ct, sq_ex, skp_eq, rtS_eq, asS_eq, ifS_eq, exS_eq, raS_eq, fin_rt, fin_nx, fin_ex, eC_eq, oV_eq, oVr_some, eV_eq, eVr_some, eM_eq, eMr_some, op1_eq, op2_eq, opn_eq, nilA_eq, consA_eq, tst_eq, tstB_ok, ifE_eq, ifR_t, ifR_f, andT_eq, orT_eq, andR_t, andR_f, orR_f, orR_t, notT_eq, dsO_nil, dsO_cons, tupE_eq, lstE_eq, tupR_some, lstR_some, callE_eq, callR_ok, callR_ex, ar_v, ar_s, refs_nil, refs_v, refs_s, bk_nil, bk_v, bk_s, bk_e, noP_eq, soP_eq, soB_int, smE_eq, smR_str, slE_eq, binA_i, binS_i, cmpE_i, cmpE_s, cmpE_b, cmpN_i, cmpN_s, cmpN_b, cmpI_i, absD_i, maxD_i, intD_i, intD_b, negD_i, lenD_l, lenD_t, ixD_t0, ixD_t1, fzc_eq, upc_eq, ooc_eq, hide_nil, hide_cons, back_nil, back_cons, bk_v1, bk_v2, nmG_eq, yesT_eq, compE_eq, compK_ok, anyS_eq, anyR_some, srO_v, srO_vs, srO_s, srR_fl, srR_d, srR_str, cmpIn_s, cmpNin_s, cm2_eq, cmR_t, cmR_f, andE_eq, orE_eq, notE_eq, andV_t, andV_f, orV_f, orV_t, notV_b, parS_eq, parR_2, callO_v, callO_vv, callO_vvv, callO_s, callO_sv, callO_svv, slD_l, allD_1, allD_2, isN_eq, forS_eq, forR_nil, enumS_eq, enR_some, isiD_str, lkN_s, lkN_v0, lkN_vi, lkR_0, lkR_i, lkR_fl, lkR_l, lkR_ex, beq_tt, beq_tf, beq_ft, beq_ff, siS_eq, siQ_fl, siR_0, siR_2, ixD_l0, ixD_l1, ixD_l2, bitsD_i, rngS1_eq, bd_ok, bd_ex, bs_ok, bs_ex, fz_d, fz_fl, fz_ex, up_ok, up_ex, oo_ok, oo_ex, lk_v, lk_s, lks_nil, lks_cons, ret_some, ret_none, Option.bind_some, Option.map_some, List.length_cons, List.length_nil, if_true, Bool.false_eq_true, if_false, Bool.not_true, Bool.not_false, List.map_cons, List.map_nil, List.cons_append, List.nil_append, List.append_nil, Nat.reduceAdd, Nat.reduceLT, Nat.zero_add, Nat.reduceLeDiff, eq_self, true_and, and_true, e, hb]
    have hc : ((lns z).dropLast.map PyData.str).length ≤ 16777216 := by
      have h1 := lns_cnt hz
      rw [List.length_map, List.length_dropLast]
      omega
    have cg := compR_ok hc cg
    simp only [gt_0, pt_0, gt_1, gt_2, gt_3, gt_4, gt_5, gt_6, gt_7, gt_8, gt_9, pt_1, pt_2, pt_3, pt_4, pt_5, pt_6, pt_7, pt_8, pt_9, co_d, co_fl, frz_d, frz_fl, sqS_eq, sq_nx, sq_rt, sq_bk, sq_ct, sq_ex, skp_eq, rtS_eq, asS_eq, ifS_eq, exS_eq, raS_eq, fin_rt, fin_nx, fin_ex, eC_eq, oV_eq, oVr_some, eV_eq, eVr_some, eM_eq, eMr_some, op1_eq, op2_eq, opn_eq, nilA_eq, consA_eq, tst_eq, tstB_ok, ifE_eq, ifR_t, ifR_f, andT_eq, orT_eq, andR_t, andR_f, orR_f, orR_t, notT_eq, dsO_nil, dsO_cons, tupE_eq, lstE_eq, tupR_some, lstR_some, callE_eq, callR_ok, callR_ex, ar_v, ar_s, refs_nil, refs_v, refs_s, bk_nil, bk_v, bk_s, bk_e, noP_eq, soP_eq, soB_int, smE_eq, smR_str, slE_eq, binA_i, binS_i, cmpE_i, cmpE_s, cmpE_b, cmpN_i, cmpN_s, cmpN_b, cmpI_i, absD_i, maxD_i, intD_i, intD_b, negD_i, lenD_l, lenD_t, ixD_t0, ixD_t1, fzc_eq, upc_eq, ooc_eq, hide_nil, hide_cons, back_nil, back_cons, bk_v1, bk_v2, nmG_eq, yesT_eq, compE_eq, compK_ok, anyS_eq, anyR_some, srO_v, srO_vs, srO_s, srR_fl, srR_d, srR_str, cmpIn_s, cmpNin_s, cm2_eq, cmR_t, cmR_f, andE_eq, orE_eq, notE_eq, andV_t, andV_f, orV_f, orV_t, notV_b, parS_eq, parR_2, callO_v, callO_vv, callO_vvv, callO_s, callO_sv, callO_svv, slD_l, allD_1, allD_2, isN_eq, forS_eq, forR_nil, enumS_eq, enR_some, isiD_str, lkN_s, lkN_v0, lkN_vi, lkR_0, lkR_i, lkR_fl, lkR_l, lkR_ex, beq_tt, beq_tf, beq_ft, beq_ff, siS_eq, siQ_fl, siR_0, siR_2, ixD_l0, ixD_l1, ixD_l2, bitsD_i, rngS1_eq, bd_ok, bd_ex, bs_ok, bs_ex, fz_d, fz_fl, fz_ex, up_ok, up_ex, oo_ok, oo_ex, lk_v, lk_s, lks_nil, lks_cons, ret_some, ret_none, Option.bind_some, Option.map_some, List.length_cons, List.length_nil, if_true, Bool.false_eq_true, if_false, Bool.not_true, Bool.not_false, List.map_cons, List.map_nil, List.cons_append, List.nil_append, List.append_nil, Nat.reduceAdd, Nat.reduceLT, Nat.zero_add, Nat.reduceLeDiff, eq_self, true_and, and_true, e, splitD_s hy hz', hsp, hci]
    rw [cg]
    simp only [gt_0, pt_0, gt_1, gt_2, gt_3, gt_4, gt_5, gt_6, gt_7, gt_8, gt_9, pt_1, pt_2, pt_3, pt_4, pt_5, pt_6, pt_7, pt_8, pt_9, co_d, co_fl, frz_d, frz_fl, sqS_eq, sq_nx, sq_rt, sq_bk, sq_ct, sq_ex, skp_eq, rtS_eq, asS_eq, ifS_eq, exS_eq, raS_eq, fin_rt, fin_nx, fin_ex, eC_eq, oV_eq, oVr_some, eV_eq, eVr_some, eM_eq, eMr_some, op1_eq, op2_eq, opn_eq, nilA_eq, consA_eq, tst_eq, tstB_ok, ifE_eq, ifR_t, ifR_f, andT_eq, orT_eq, andR_t, andR_f, orR_f, orR_t, notT_eq, dsO_nil, dsO_cons, tupE_eq, lstE_eq, tupR_some, lstR_some, callE_eq, callR_ok, callR_ex, ar_v, ar_s, refs_nil, refs_v, refs_s, bk_nil, bk_v, bk_s, bk_e, noP_eq, soP_eq, soB_int, smE_eq, smR_str, slE_eq, binA_i, binS_i, cmpE_i, cmpE_s, cmpE_b, cmpN_i, cmpN_s, cmpN_b, cmpI_i, absD_i, maxD_i, intD_i, intD_b, negD_i, lenD_l, lenD_t, ixD_t0, ixD_t1, fzc_eq, upc_eq, ooc_eq, hide_nil, hide_cons, back_nil, back_cons, bk_v1, bk_v2, nmG_eq, yesT_eq, compE_eq, compK_ok, anyS_eq, anyR_some, srO_v, srO_vs, srO_s, srR_fl, srR_d, srR_str, cmpIn_s, cmpNin_s, cm2_eq, cmR_t, cmR_f, andE_eq, orE_eq, notE_eq, andV_t, andV_f, orV_f, orV_t, notV_b, parS_eq, parR_2, callO_v, callO_vv, callO_vvv, callO_s, callO_sv, callO_svv, slD_l, allD_1, allD_2, isN_eq, forS_eq, forR_nil, enumS_eq, enR_some, isiD_str, lkN_s, lkN_v0, lkN_vi, lkR_0, lkR_i, lkR_fl, lkR_l, lkR_ex, beq_tt, beq_tf, beq_ft, beq_ff, siS_eq, siQ_fl, siR_0, siR_2, ixD_l0, ixD_l1, ixD_l2, bitsD_i, rngS1_eq, bd_ok, bd_ex, bs_ok, bs_ex, fz_d, fz_fl, fz_ex, up_ok, up_ex, oo_ok, oo_ex, lk_v, lk_s, lks_nil, lks_cons, ret_some, ret_none, Option.bind_some, Option.map_some, List.length_cons, List.length_nil, if_true, Bool.false_eq_true, if_false, Bool.not_true, Bool.not_false, List.map_cons, List.map_nil, List.cons_append, List.nil_append, List.append_nil, Nat.reduceAdd, Nat.reduceLT, Nat.zero_add, Nat.reduceLeDiff, eq_self, true_and, and_true]
    exact ⟨_, _, rfl⟩
  · intro hw
    cases hw2 : wb z with
    | none => exact absurd hw2 hw
    | some n =>
      rw [hw2] at e
      simp only [optD] at e
      simp only [gt_0, pt_0, gt_1, gt_2, gt_3, gt_4, gt_5, gt_6, gt_7, gt_8, gt_9, pt_1, pt_2, pt_3, pt_4, pt_5, pt_6, pt_7, pt_8, pt_9, co_d, co_fl, frz_d, frz_fl, sqS_eq, sq_nx, sq_rt, sq_bk, sq_ct, sq_ex, skp_eq, rtS_eq, asS_eq, ifS_eq, exS_eq, raS_eq, fin_rt, fin_nx, fin_ex, eC_eq, oV_eq, oVr_some, eV_eq, eVr_some, eM_eq, eMr_some, op1_eq, op2_eq, opn_eq, nilA_eq, consA_eq, tst_eq, tstB_ok, ifE_eq, ifR_t, ifR_f, andT_eq, orT_eq, andR_t, andR_f, orR_f, orR_t, notT_eq, dsO_nil, dsO_cons, tupE_eq, lstE_eq, tupR_some, lstR_some, callE_eq, callR_ok, callR_ex, ar_v, ar_s, refs_nil, refs_v, refs_s, bk_nil, bk_v, bk_s, bk_e, noP_eq, soP_eq, soB_int, smE_eq, smR_str, slE_eq, binA_i, binS_i, cmpE_i, cmpE_s, cmpE_b, cmpN_i, cmpN_s, cmpN_b, cmpI_i, absD_i, maxD_i, intD_i, intD_b, negD_i, lenD_l, lenD_t, ixD_t0, ixD_t1, fzc_eq, upc_eq, ooc_eq, hide_nil, hide_cons, back_nil, back_cons, bk_v1, bk_v2, nmG_eq, yesT_eq, compE_eq, compK_ok, anyS_eq, anyR_some, srO_v, srO_vs, srO_s, srR_fl, srR_d, srR_str, cmpIn_s, cmpNin_s, cm2_eq, cmR_t, cmR_f, andE_eq, orE_eq, notE_eq, andV_t, andV_f, orV_f, orV_t, notV_b, parS_eq, parR_2, callO_v, callO_vv, callO_vvv, callO_s, callO_sv, callO_svv, slD_l, allD_1, allD_2, isN_eq, forS_eq, forR_nil, enumS_eq, enR_some, isiD_str, lkN_s, lkN_v0, lkN_vi, lkR_0, lkR_i, lkR_fl, lkR_l, lkR_ex, beq_tt, beq_tf, beq_ft, beq_ff, siS_eq, siQ_fl, siR_0, siR_2, ixD_l0, ixD_l1, ixD_l2, bitsD_i, rngS1_eq, bd_ok, bd_ex, bs_ok, bs_ex, fz_d, fz_fl, fz_ex, up_ok, up_ex, oo_ok, oo_ex, lk_v, lk_s, lks_nil, lks_cons, ret_some, ret_none, Option.bind_some, Option.map_some, List.length_cons, List.length_nil, if_true, Bool.false_eq_true, if_false, Bool.not_true, Bool.not_false, List.map_cons, List.map_nil, List.cons_append, List.nil_append, List.append_nil, Nat.reduceAdd, Nat.reduceLT, Nat.zero_add, Nat.reduceLeDiff, eq_self, true_and, and_true, e]
      exact ⟨_, rfl⟩
/-! the drawn numbers -/
theorem e_hash (s i : Int) (hs : s.natAbs < 2 ^ 64) (hi : i.natAbs < 2 ^ 64) : ∃ r ρ, f_x_law_hash [iD s, iD i] = .ok (.d (.int r)) ρ ∧ 0 ≤ r ∧ r < 2147483647 := by
  rw [show f_x_law_hash [iD s, iD i] = finR 2 [2] (s_x_law_hash [iD s, iD i, none]) from bodyR_eq ..]
  unfold s_x_law_hash
  have m1 : ∀ x : Int, mulB x 1140671 = true := fun x => mulB_r (by decide)
  have m2 : ∀ x : Int, mulB 27644437 x = true := fun x => mulB_l (by decide)
  have m3 : ∀ x : Int, mulB x i = true := fun x => mulB_r hi
  have m4 : ∀ x : Int, mulB 131 x = true := fun x => mulB_l (by decide)
  have m5 : ∀ x : Int, mulB 62089 x = true := fun x => mulB_l (by decide)
  have m6 : ∀ x : Int, mulB x 48271 = true := fun x => mulB_r (by decide)
  have m7 : ∀ x : Int, mulB (x.fmod 2147483629) (x.fmod 2147483629) = true := fun x => by
    have := fmodB x 2147483629 (by decide)
    exact mulB_r (by omega)
  have d1 : (2147483629 : Int) ≠ 0 := by decide
  have d2 : (2147483587 : Int) ≠ 0 := by decide
  have d3 : (2147483647 : Int) ≠ 0 := by decide
  simp only [gt_0, pt_0, gt_1, gt_2, gt_3, gt_4, gt_5, gt_6, gt_7, gt_8, gt_9, pt_1, pt_2, pt_3, pt_4, pt_5, pt_6, pt_7, pt_8, pt_9, co_d, co_fl, frz_d, frz_fl, sqS_eq, sq_nx, sq_rt, sq_bk, sq_ct, sq_ex, skp_eq, rtS_eq, asS_eq, ifS_eq, exS_eq, raS_eq, fin_rt, fin_nx, fin_ex, eC_eq, oV_eq, oVr_some, eV_eq, eVr_some, eM_eq, eMr_some, op1_eq, op2_eq, opn_eq, nilA_eq, consA_eq, tst_eq, tstB_ok, ifE_eq, ifR_t, ifR_f, andT_eq, orT_eq, andR_t, andR_f, orR_f, orR_t, notT_eq, dsO_nil, dsO_cons, tupE_eq, lstE_eq, tupR_some, lstR_some, callE_eq, callR_ok, callR_ex, ar_v, ar_s, refs_nil, refs_v, refs_s, bk_nil, bk_v, bk_s, bk_e, noP_eq, soP_eq, soB_int, smE_eq, smR_str, slE_eq, binA_i, binS_i, cmpE_i, cmpE_s, cmpE_b, cmpN_i, cmpN_s, cmpN_b, cmpI_i, absD_i, maxD_i, intD_i, intD_b, negD_i, lenD_l, lenD_t, ixD_t0, ixD_t1, fzc_eq, upc_eq, ooc_eq, hide_nil, hide_cons, back_nil, back_cons, bk_v1, bk_v2, nmG_eq, yesT_eq, compE_eq, compK_ok, anyS_eq, anyR_some, srO_v, srO_vs, srO_s, srR_fl, srR_d, srR_str, cmpIn_s, cmpNin_s, cm2_eq, cmR_t, cmR_f, andE_eq, orE_eq, notE_eq, andV_t, andV_f, orV_f, orV_t, notV_b, parS_eq, parR_2, callO_v, callO_vv, callO_vvv, callO_s, callO_sv, callO_svv, slD_l, allD_1, allD_2, isN_eq, forS_eq, forR_nil, enumS_eq, enR_some, isiD_str, lkN_s, lkN_v0, lkN_vi, lkR_0, lkR_i, lkR_fl, lkR_l, lkR_ex, beq_tt, beq_tf, beq_ft, beq_ff, siS_eq, siQ_fl, siR_0, siR_2, ixD_l0, ixD_l1, ixD_l2, bitsD_i, rngS1_eq, bd_ok, bd_ex, bs_ok, bs_ex, fz_d, fz_fl, fz_ex, up_ok, up_ex, oo_ok, oo_ex, lk_v, lk_s, lks_nil, lks_cons, ret_some, ret_none, Option.bind_some, Option.map_some, List.length_cons, List.length_nil, if_true, Bool.false_eq_true, if_false, Bool.not_true, Bool.not_false, List.map_cons, List.map_nil, List.cons_append, List.nil_append, List.append_nil, Nat.reduceAdd, Nat.reduceLT, Nat.zero_add, Nat.reduceLeDiff, eq_self, true_and, and_true, mulM (m1 _), mulM (m2 _), mulM (m3 _), mulM (m4 _), mulM (m5 _), mulM (m6 _), mulM (m7 _), modR d1, modR d2, modR d3]
  exact ⟨_, _, rfl, fmodB _ _ (by decide)⟩
/-- the generator's state -/
def Gn (g : List PyData) (n : Nat) : Prop := ∃ a b : Int, ∃ c : Nat, g = [.int a, .int b, .int (c : Int)] ∧ b.natAbs < 2 ^ 64 ∧ c ≤ n
theorem e_random {g : List PyData} {n : Nat} (hg : Gn g n) (hn : n < 2 ^ 40) (k : Nat) (h1 : 1 ≤ k) (h2 : k < 2 ^ 29) : ∃ (r : Nat) (g' : List PyData), f_x_law_random [some (.fl g), iD (k : Int)] = .ok (.d (.int (r : Int))) [some (.fl g'), iD (k : Int)] ∧ r < k ∧ Gn g' (n + 1) := by
  obtain ⟨a, b, c, rfl, hb, hc⟩ := hg
  rw [show f_x_law_random [some (.fl [.int a, .int b, .int (c : Int)]), iD (k : Int)] = finR 2 [2, 3] (s_x_law_random [some (.fl [.int a, .int b, .int (c : Int)]), iD (k : Int), none, none]) from bodyR_eq ..]
  unfold s_x_law_random
  have hk : (k : Int) ≠ 0 := by omega
  have hd : ∀ x : Int, Builtin.divisionGoesByPylong x (k : Int) = false := fun x => PyProof.noPylong_small (by simp; omega)
  have hf := fun x => fmodB x (k : Int) (by omega)
  by_cases ha : 0 < a
  · have e1 : decide (0 < a) = true := decide_eq_true ha
    obtain ⟨q1, q2⟩ := hf a
    obtain ⟨r, hr⟩ : ∃ r : Nat, a.fmod (k : Int) = (r : Int) := ⟨(a.fmod k).toNat, by omega⟩
    refine ⟨r, [.int (a.fdiv k), .int b, .int (c : Int)], ?_, by omega, ⟨a.fdiv k, b, c, rfl, hb, by omega⟩⟩
    simp only [gt_0, pt_0, gt_1, gt_2, gt_3, gt_4, gt_5, gt_6, gt_7, gt_8, gt_9, pt_1, pt_2, pt_3, pt_4, pt_5, pt_6, pt_7, pt_8, pt_9, co_d, co_fl, frz_d, frz_fl, sqS_eq, sq_nx, sq_rt, sq_bk, sq_ct, sq_ex, skp_eq, rtS_eq, asS_eq, ifS_eq, exS_eq, raS_eq, fin_rt, fin_nx, fin_ex, eC_eq, oV_eq, oVr_some, eV_eq, eVr_some, eM_eq, eMr_some, op1_eq, op2_eq, opn_eq, nilA_eq, consA_eq, tst_eq, tstB_ok, ifE_eq, ifR_t, ifR_f, andT_eq, orT_eq, andR_t, andR_f, orR_f, orR_t, notT_eq, dsO_nil, dsO_cons, tupE_eq, lstE_eq, tupR_some, lstR_some, callE_eq, callR_ok, callR_ex, ar_v, ar_s, refs_nil, refs_v, refs_s, bk_nil, bk_v, bk_s, bk_e, noP_eq, soP_eq, soB_int, smE_eq, smR_str, slE_eq, binA_i, binS_i, cmpE_i, cmpE_s, cmpE_b, cmpN_i, cmpN_s, cmpN_b, cmpI_i, absD_i, maxD_i, intD_i, intD_b, negD_i, lenD_l, lenD_t, ixD_t0, ixD_t1, fzc_eq, upc_eq, ooc_eq, hide_nil, hide_cons, back_nil, back_cons, bk_v1, bk_v2, nmG_eq, yesT_eq, compE_eq, compK_ok, anyS_eq, anyR_some, srO_v, srO_vs, srO_s, srR_fl, srR_d, srR_str, cmpIn_s, cmpNin_s, cm2_eq, cmR_t, cmR_f, andE_eq, orE_eq, notE_eq, andV_t, andV_f, orV_f, orV_t, notV_b, parS_eq, parR_2, callO_v, callO_vv, callO_vvv, callO_s, callO_sv, callO_svv, slD_l, allD_1, allD_2, isN_eq, forS_eq, forR_nil, enumS_eq, enR_some, isiD_str, lkN_s, lkN_v0, lkN_vi, lkR_0, lkR_i, lkR_fl, lkR_l, lkR_ex, beq_tt, beq_tf, beq_ft, beq_ff, siS_eq, siQ_fl, siR_0, siR_2, ixD_l0, ixD_l1, ixD_l2, bitsD_i, rngS1_eq, bd_ok, bd_ex, bs_ok, bs_ex, fz_d, fz_fl, fz_ex, up_ok, up_ex, oo_ok, oo_ex, lk_v, lk_s, lks_nil, lks_cons, ret_some, ret_none, Option.bind_some, Option.map_some, List.length_cons, List.length_nil, if_true, Bool.false_eq_true, if_false, Bool.not_true, Bool.not_false, List.map_cons, List.map_nil, List.cons_append, List.nil_append, List.append_nil, Nat.reduceAdd, Nat.reduceLT, Nat.zero_add, Nat.reduceLeDiff, eq_self, true_and, and_true, e1, modR hk, divQ hk (hd _), hr]
    rfl
  · have e1 : decide (0 < a) = false := decide_eq_false ha
    have hbt := bits_le (b := (k : Int)) (k := 29) (by simpa using h2)
    have d30 : Builtin.divisionGoesByPylong ((Builtin.Int.intBits (k : Int) : Nat) : Int) 30 = false := PyProof.noPylong_small (by decide)
    have z30 : (((Builtin.Int.intBits (k : Int) : Nat) : Int)).fdiv 30 = 0 := by
      rw [Int.fdiv_eq_ediv_of_nonneg _ (by decide)]
      omega
    have n30 : (30 : Int) ≠ 0 := by decide
    have rg : ∀ ρ1, rgR ρ1 (.int (1 + 0)) = .ok (rangeD 0 1, []) ρ1 := fun ρ1 => rgR_ok ρ1 1 (by decide)
    have r1 : rangeD 0 1 = [.int 0] := rfl
    obtain ⟨x, ρx, ex, x1, x2⟩ := e_hash b ((c : Int) + 1) hb (by omega)
    obtain ⟨q1, q2⟩ := hf (0 * 2147483587 + x)
    obtain ⟨r, hr⟩ : ∃ r : Nat, (0 * 2147483587 + x).fmod (k : Int) = (r : Int) := ⟨((0 * 2147483587 + x).fmod k).toNat, by omega⟩
    have m1 : mulB 0 2147483587 = true := mulB_l (by decide)
    refine ⟨r, [.int a, .int b, .int ((c + 1 : Nat) : Int)], ?_, by omega, ⟨a, b, c + 1, rfl, hb, by omega⟩⟩
    have fg : forGo (nmG 3) (sqS (siS 0 (fzc (op2 binA (ooc (fzc (op2 ixD (oV 0) (ooc (eC (.int 2)))))) (ooc (eC (.int 1))))) (eC (.int 2)))
        (sqS (asS 2 (op2 binA (ooc (fzc (op2 binM (oV 2) (ooc (eC (.int 2147483587)))))) (ooc (fzc (callE 2 f_x_law_hash (consA (ooc (fzc (op2 ixD (oV 0) (ooc (eC (.int 1)))))) (consA (ooc (fzc (op2 ixD (oV 0) (ooc (eC (.int 2)))))) nilA))))))) skp)) [.int 0]
        [some (.fl [.int a, .int b, .int (c : Int)]), iD (k : Int), iD 0, none] = .nx [some (.fl [.int a, .int b, .int ((c : Int) + 1)]), iD (k : Int), iD (0 * 2147483587 + x), iD 0] := by
      refine (forGo_nx (ρ1 := [some (.fl [.int a, .int b, .int (c : Int)]), iD (k : Int), iD 0, iD 0]) (by simp only [gt_0, pt_0, gt_1, gt_2, gt_3, gt_4, gt_5, gt_6, gt_7, gt_8, gt_9, pt_1, pt_2, pt_3, pt_4, pt_5, pt_6, pt_7, pt_8, pt_9, co_d, co_fl, frz_d, frz_fl, sqS_eq, sq_nx, sq_rt, sq_bk, sq_ct, sq_ex, skp_eq, rtS_eq, asS_eq, ifS_eq, exS_eq, raS_eq, fin_rt, fin_nx, fin_ex, eC_eq, oV_eq, oVr_some, eV_eq, eVr_some, eM_eq, eMr_some, op1_eq, op2_eq, opn_eq, nilA_eq, consA_eq, tst_eq, tstB_ok, ifE_eq, ifR_t, ifR_f, andT_eq, orT_eq, andR_t, andR_f, orR_f, orR_t, notT_eq, dsO_nil, dsO_cons, tupE_eq, lstE_eq, tupR_some, lstR_some, callE_eq, callR_ok, callR_ex, ar_v, ar_s, refs_nil, refs_v, refs_s, bk_nil, bk_v, bk_s, bk_e, noP_eq, soP_eq, soB_int, smE_eq, smR_str, slE_eq, binA_i, binS_i, cmpE_i, cmpE_s, cmpE_b, cmpN_i, cmpN_s, cmpN_b, cmpI_i, absD_i, maxD_i, intD_i, intD_b, negD_i, lenD_l, lenD_t, ixD_t0, ixD_t1, fzc_eq, upc_eq, ooc_eq, hide_nil, hide_cons, back_nil, back_cons, bk_v1, bk_v2, nmG_eq, yesT_eq, compE_eq, compK_ok, anyS_eq, anyR_some, srO_v, srO_vs, srO_s, srR_fl, srR_d, srR_str, cmpIn_s, cmpNin_s, cm2_eq, cmR_t, cmR_f, andE_eq, orE_eq, notE_eq, andV_t, andV_f, orV_f, orV_t, notV_b, parS_eq, parR_2, callO_v, callO_vv, callO_vvv, callO_s, callO_sv, callO_svv, slD_l, allD_1, allD_2, isN_eq, forS_eq, forR_nil, enumS_eq, enR_some, isiD_str, lkN_s, lkN_v0, lkN_vi, lkR_0, lkR_i, lkR_fl, lkR_l, lkR_ex, beq_tt, beq_tf, beq_ft, beq_ff, siS_eq, siQ_fl, siR_0, siR_2, ixD_l0, ixD_l1, ixD_l2, bitsD_i, rngS1_eq, bd_ok, bd_ex, bs_ok, bs_ex, fz_d, fz_fl, fz_ex, up_ok, up_ex, oo_ok, oo_ex, lk_v, lk_s, lks_nil, lks_cons, ret_some, ret_none, Option.bind_some, Option.map_some, List.length_cons, List.length_nil, if_true, Bool.false_eq_true, if_false, Bool.not_true, Bool.not_false, List.map_cons, List.map_nil, List.cons_append, List.nil_append, List.append_nil, Nat.reduceAdd, Nat.reduceLT, Nat.zero_add, Nat.reduceLeDiff, eq_self, true_and, and_true]) ?_).trans (forGo_nil _ _ _)
      simp only [gt_0, pt_0, gt_1, gt_2, gt_3, gt_4, gt_5, gt_6, gt_7, gt_8, gt_9, pt_1, pt_2, pt_3, pt_4, pt_5, pt_6, pt_7, pt_8, pt_9, co_d, co_fl, frz_d, frz_fl, sqS_eq, sq_nx, sq_rt, sq_bk, sq_ct, sq_ex, skp_eq, rtS_eq, asS_eq, ifS_eq, exS_eq, raS_eq, fin_rt, fin_nx, fin_ex, eC_eq, oV_eq, oVr_some, eV_eq, eVr_some, eM_eq, eMr_some, op1_eq, op2_eq, opn_eq, nilA_eq, consA_eq, tst_eq, tstB_ok, ifE_eq, ifR_t, ifR_f, andT_eq, orT_eq, andR_t, andR_f, orR_f, orR_t, notT_eq, dsO_nil, dsO_cons, tupE_eq, lstE_eq, tupR_some, lstR_some, callE_eq, callR_ok, callR_ex, ar_v, ar_s, refs_nil, refs_v, refs_s, bk_nil, bk_v, bk_s, bk_e, noP_eq, soP_eq, soB_int, smE_eq, smR_str, slE_eq, binA_i, binS_i, cmpE_i, cmpE_s, cmpE_b, cmpN_i, cmpN_s, cmpN_b, cmpI_i, absD_i, maxD_i, intD_i, intD_b, negD_i, lenD_l, lenD_t, ixD_t0, ixD_t1, fzc_eq, upc_eq, ooc_eq, hide_nil, hide_cons, back_nil, back_cons, bk_v1, bk_v2, nmG_eq, yesT_eq, compE_eq, compK_ok, anyS_eq, anyR_some, srO_v, srO_vs, srO_s, srR_fl, srR_d, srR_str, cmpIn_s, cmpNin_s, cm2_eq, cmR_t, cmR_f, andE_eq, orE_eq, notE_eq, andV_t, andV_f, orV_f, orV_t, notV_b, parS_eq, parR_2, callO_v, callO_vv, callO_vvv, callO_s, callO_sv, callO_svv, slD_l, allD_1, allD_2, isN_eq, forS_eq, forR_nil, enumS_eq, enR_some, isiD_str, lkN_s, lkN_v0, lkN_vi, lkR_0, lkR_i, lkR_fl, lkR_l, lkR_ex, beq_tt, beq_tf, beq_ft, beq_ff, siS_eq, siQ_fl, siR_0, siR_2, ixD_l0, ixD_l1, ixD_l2, bitsD_i, rngS1_eq, bd_ok, bd_ex, bs_ok, bs_ex, fz_d, fz_fl, fz_ex, up_ok, up_ex, oo_ok, oo_ex, lk_v, lk_s, lks_nil, lks_cons, ret_some, ret_none, Option.bind_some, Option.map_some, List.length_cons, List.length_nil, if_true, Bool.false_eq_true, if_false, Bool.not_true, Bool.not_false, List.map_cons, List.map_nil, List.cons_append, List.nil_append, List.append_nil, Nat.reduceAdd, Nat.reduceLT, Nat.zero_add, Nat.reduceLeDiff, eq_self, true_and, and_true, mulM m1, ex]
    simp only [gt_0, pt_0, gt_1, gt_2, gt_3, gt_4, gt_5, gt_6, gt_7, gt_8, gt_9, pt_1, pt_2, pt_3, pt_4, pt_5, pt_6, pt_7, pt_8, pt_9, co_d, co_fl, frz_d, frz_fl, sqS_eq, sq_nx, sq_rt, sq_bk, sq_ct, sq_ex, skp_eq, rtS_eq, asS_eq, ifS_eq, exS_eq, raS_eq, fin_rt, fin_nx, fin_ex, eC_eq, oV_eq, oVr_some, eV_eq, eVr_some, eM_eq, eMr_some, op1_eq, op2_eq, opn_eq, nilA_eq, consA_eq, tst_eq, tstB_ok, ifE_eq, ifR_t, ifR_f, andT_eq, orT_eq, andR_t, andR_f, orR_f, orR_t, notT_eq, dsO_nil, dsO_cons, tupE_eq, lstE_eq, tupR_some, lstR_some, callE_eq, callR_ok, callR_ex, ar_v, ar_s, refs_nil, refs_v, refs_s, bk_nil, bk_v, bk_s, bk_e, noP_eq, soP_eq, soB_int, smE_eq, smR_str, slE_eq, binA_i, binS_i, cmpE_i, cmpE_s, cmpE_b, cmpN_i, cmpN_s, cmpN_b, cmpI_i, absD_i, maxD_i, intD_i, intD_b, negD_i, lenD_l, lenD_t, ixD_t0, ixD_t1, fzc_eq, upc_eq, ooc_eq, hide_nil, hide_cons, back_nil, back_cons, bk_v1, bk_v2, nmG_eq, yesT_eq, compE_eq, compK_ok, anyS_eq, anyR_some, srO_v, srO_vs, srO_s, srR_fl, srR_d, srR_str, cmpIn_s, cmpNin_s, cm2_eq, cmR_t, cmR_f, andE_eq, orE_eq, notE_eq, andV_t, andV_f, orV_f, orV_t, notV_b, parS_eq, parR_2, callO_v, callO_vv, callO_vvv, callO_s, callO_sv, callO_svv, slD_l, allD_1, allD_2, isN_eq, forS_eq, forR_nil, enumS_eq, enR_some, isiD_str, lkN_s, lkN_v0, lkN_vi, lkR_0, lkR_i, lkR_fl, lkR_l, lkR_ex, beq_tt, beq_tf, beq_ft, beq_ff, siS_eq, siQ_fl, siR_0, siR_2, ixD_l0, ixD_l1, ixD_l2, bitsD_i, rngS1_eq, bd_ok, bd_ex, bs_ok, bs_ex, fz_d, fz_fl, fz_ex, up_ok, up_ex, oo_ok, oo_ex, lk_v, lk_s, lks_nil, lks_cons, ret_some, ret_none, Option.bind_some, Option.map_some, List.length_cons, List.length_nil, if_true, Bool.false_eq_true, if_false, Bool.not_true, Bool.not_false, List.map_cons, List.map_nil, List.cons_append, List.nil_append, List.append_nil, Nat.reduceAdd, Nat.reduceLT, Nat.zero_add, Nat.reduceLeDiff, eq_self, true_and, and_true, e1, divQ n30 d30, z30, rg, r1]
    rw [fg]
    simp only [gt_0, pt_0, gt_1, gt_2, gt_3, gt_4, gt_5, gt_6, gt_7, gt_8, gt_9, pt_1, pt_2, pt_3, pt_4, pt_5, pt_6, pt_7, pt_8, pt_9, co_d, co_fl, frz_d, frz_fl, sqS_eq, sq_nx, sq_rt, sq_bk, sq_ct, sq_ex, skp_eq, rtS_eq, asS_eq, ifS_eq, exS_eq, raS_eq, fin_rt, fin_nx, fin_ex, eC_eq, oV_eq, oVr_some, eV_eq, eVr_some, eM_eq, eMr_some, op1_eq, op2_eq, opn_eq, nilA_eq, consA_eq, tst_eq, tstB_ok, ifE_eq, ifR_t, ifR_f, andT_eq, orT_eq, andR_t, andR_f, orR_f, orR_t, notT_eq, dsO_nil, dsO_cons, tupE_eq, lstE_eq, tupR_some, lstR_some, callE_eq, callR_ok, callR_ex, ar_v, ar_s, refs_nil, refs_v, refs_s, bk_nil, bk_v, bk_s, bk_e, noP_eq, soP_eq, soB_int, smE_eq, smR_str, slE_eq, binA_i, binS_i, cmpE_i, cmpE_s, cmpE_b, cmpN_i, cmpN_s, cmpN_b, cmpI_i, absD_i, maxD_i, intD_i, intD_b, negD_i, lenD_l, lenD_t, ixD_t0, ixD_t1, fzc_eq, upc_eq, ooc_eq, hide_nil, hide_cons, back_nil, back_cons, bk_v1, bk_v2, nmG_eq, yesT_eq, compE_eq, compK_ok, anyS_eq, anyR_some, srO_v, srO_vs, srO_s, srR_fl, srR_d, srR_str, cmpIn_s, cmpNin_s, cm2_eq, cmR_t, cmR_f, andE_eq, orE_eq, notE_eq, andV_t, andV_f, orV_f, orV_t, notV_b, parS_eq, parR_2, callO_v, callO_vv, callO_vvv, callO_s, callO_sv, callO_svv, slD_l, allD_1, allD_2, isN_eq, forS_eq, forR_nil, enumS_eq, enR_some, isiD_str, lkN_s, lkN_v0, lkN_vi, lkR_0, lkR_i, lkR_fl, lkR_l, lkR_ex, beq_tt, beq_tf, beq_ft, beq_ff, siS_eq, siQ_fl, siR_0, siR_2, ixD_l0, ixD_l1, ixD_l2, bitsD_i, rngS1_eq, bd_ok, bd_ex, bs_ok, bs_ex, fz_d, fz_fl, fz_ex, up_ok, up_ex, oo_ok, oo_ex, lk_v, lk_s, lks_nil, lks_cons, ret_some, ret_none, Option.bind_some, Option.map_some, List.length_cons, List.length_nil, if_true, Bool.false_eq_true, if_false, Bool.not_true, Bool.not_false, List.map_cons, List.map_nil, List.cons_append, List.nil_append, List.append_nil, Nat.reduceAdd, Nat.reduceLT, Nat.zero_add, Nat.reduceLeDiff, eq_self, true_and, and_true, modR hk, hr]
    rfl
end K85
set_option Elab.async false
set_option maxRecDepth 100000
set_option maxHeartbeats 4000000
namespace K85
open PySem PySem.Spec PyProof.Rows L2 Ev
theorem powP {a n : Int} (h : 0 ≤ n ∧ (Builtin.Int.intBits a : Int) * n ≤ 2 ^ 27) : binP (.int a) (.int n) = some (.d (.int (a ^ n.toNat))) := if_pos h
theorem e_pick {g : List PyData} {n : Nat} (hg : Gn g n) (hn : n < 2 ^ 40) (xs : List PyData) (h1 : 1 ≤ xs.length) (h2 : xs.length < 2 ^ 29) : ∃ (x : PyData) (g' : List PyData), f_x_law_pick [some (.fl g), some (.d (.list xs))] = .ok (.d x) [some (.fl g'), some (.d (.list xs))] ∧ x ∈ xs ∧ Gn g' (n + 1) := by
  rw [show f_x_law_pick [some (.fl g), some (.d (.list xs))] = finR 2 [] (s_x_law_pick [some (.fl g), some (.d (.list xs))]) from bodyR_eq ..]
  unfold s_x_law_pick
  obtain ⟨r, g', e, hr, h'⟩ := e_random hg hn xs.length h1 h2
  obtain ⟨x, hx⟩ : ∃ x, xs[r]? = some x := ⟨xs[r], List.getElem?_eq_getElem hr⟩
  refine ⟨x, g', ?_, List.mem_of_getElem? hx, h'⟩
  simp only [gt_0, pt_0, gt_1, gt_2, gt_3, gt_4, gt_5, gt_6, gt_7, gt_8, gt_9, pt_1, pt_2, pt_3, pt_4, pt_5, pt_6, pt_7, pt_8, pt_9, co_d, co_fl, frz_d, frz_fl, sqS_eq, sq_nx, sq_rt, sq_bk, sq_ct, sq_ex, skp_eq, rtS_eq, asS_eq, ifS_eq, exS_eq, raS_eq, fin_rt, fin_nx, fin_ex, eC_eq, oV_eq, oVr_some, eV_eq, eVr_some, eM_eq, eMr_some, op1_eq, op2_eq, opn_eq, nilA_eq, consA_eq, tst_eq, tstB_ok, ifE_eq, ifR_t, ifR_f, andT_eq, orT_eq, andR_t, andR_f, orR_f, orR_t, notT_eq, dsO_nil, dsO_cons, tupE_eq, lstE_eq, tupR_some, lstR_some, callE_eq, callR_ok, callR_ex, ar_v, ar_s, refs_nil, refs_v, refs_s, bk_nil, bk_v, bk_s, bk_e, noP_eq, soP_eq, soB_int, smE_eq, smR_str, slE_eq, binA_i, binS_i, cmpE_i, cmpE_s, cmpE_b, cmpN_i, cmpN_s, cmpN_b, cmpI_i, absD_i, maxD_i, intD_i, intD_b, negD_i, lenD_l, lenD_t, ixD_t0, ixD_t1, fzc_eq, upc_eq, ooc_eq, hide_nil, hide_cons, back_nil, back_cons, bk_v1, bk_v2, nmG_eq, yesT_eq, compE_eq, compK_ok, anyS_eq, anyR_some, srO_v, srO_vs, srO_s, srR_fl, srR_d, srR_str, cmpIn_s, cmpNin_s, cm2_eq, cmR_t, cmR_f, andE_eq, orE_eq, notE_eq, andV_t, andV_f, orV_f, orV_t, notV_b, parS_eq, parR_2, callO_v, callO_vv, callO_vvv, callO_s, callO_sv, callO_svv, slD_l, allD_1, allD_2, isN_eq, forS_eq, forR_nil, enumS_eq, enR_some, isiD_str, lkN_s, lkN_v0, lkN_vi, lkR_0, lkR_i, lkR_fl, lkR_l, lkR_ex, beq_tt, beq_tf, beq_ft, beq_ff, siS_eq, siQ_fl, siR_0, siR_2, ixD_l0, ixD_l1, ixD_l2, bitsD_i, rngS1_eq, bd_ok, bd_ex, bs_ok, bs_ex, fz_d, fz_fl, fz_ex, up_ok, up_ex, oo_ok, oo_ex, lk_v, lk_s, lks_nil, lks_cons, ret_some, ret_none, Option.bind_some, Option.map_some, List.length_cons, List.length_nil, if_true, Bool.false_eq_true, if_false, Bool.not_true, Bool.not_false, List.map_cons, List.map_nil, List.cons_append, List.nil_append, List.append_nil, Nat.reduceAdd, Nat.reduceLT, Nat.zero_add, Nat.reduceLeDiff, eq_self, true_and, and_true, e, ixD_l (Ev.atI_nat hx)]
  rfl
theorem e_law_cell (ns : List Int) (i : Nat) : ∃ (c : Int) (ρ : Sl), f_x_law_cell [some (.d (.list (ns.map .int))), iD (i : Int)] = .ok (.d (.int c)) ρ := by
  rw [show f_x_law_cell [some (.d (.list (ns.map .int))), iD (i : Int)] = finR 2 [] (s_x_law_cell [some (.d (.list (ns.map .int))), iD (i : Int)]) from bodyR_eq ..]
  unfold s_x_law_cell
  by_cases hi : i < ns.length
  · have e1 : decide ((i : Int) < ((ns.map PyData.int).length : Int)) = true := decide_eq_true (by simpa using hi)
    have hx : (ns.map PyData.int)[i]? = some (.int ns[i]) := by simp [hi]
    exact ⟨ns[i], _, by simp only [gt_0, pt_0, gt_1, gt_2, gt_3, gt_4, gt_5, gt_6, gt_7, gt_8, gt_9, pt_1, pt_2, pt_3, pt_4, pt_5, pt_6, pt_7, pt_8, pt_9, co_d, co_fl, frz_d, frz_fl, sqS_eq, sq_nx, sq_rt, sq_bk, sq_ct, sq_ex, skp_eq, rtS_eq, asS_eq, ifS_eq, exS_eq, raS_eq, fin_rt, fin_nx, fin_ex, eC_eq, oV_eq, oVr_some, eV_eq, eVr_some, eM_eq, eMr_some, op1_eq, op2_eq, opn_eq, nilA_eq, consA_eq, tst_eq, tstB_ok, ifE_eq, ifR_t, ifR_f, andT_eq, orT_eq, andR_t, andR_f, orR_f, orR_t, notT_eq, dsO_nil, dsO_cons, tupE_eq, lstE_eq, tupR_some, lstR_some, callE_eq, callR_ok, callR_ex, ar_v, ar_s, refs_nil, refs_v, refs_s, bk_nil, bk_v, bk_s, bk_e, noP_eq, soP_eq, soB_int, smE_eq, smR_str, slE_eq, binA_i, binS_i, cmpE_i, cmpE_s, cmpE_b, cmpN_i, cmpN_s, cmpN_b, cmpI_i, absD_i, maxD_i, intD_i, intD_b, negD_i, lenD_l, lenD_t, ixD_t0, ixD_t1, fzc_eq, upc_eq, ooc_eq, hide_nil, hide_cons, back_nil, back_cons, bk_v1, bk_v2, nmG_eq, yesT_eq, compE_eq, compK_ok, anyS_eq, anyR_some, srO_v, srO_vs, srO_s, srR_fl, srR_d, srR_str, cmpIn_s, cmpNin_s, cm2_eq, cmR_t, cmR_f, andE_eq, orE_eq, notE_eq, andV_t, andV_f, orV_f, orV_t, notV_b, parS_eq, parR_2, callO_v, callO_vv, callO_vvv, callO_s, callO_sv, callO_svv, slD_l, allD_1, allD_2, isN_eq, forS_eq, forR_nil, enumS_eq, enR_some, isiD_str, lkN_s, lkN_v0, lkN_vi, lkR_0, lkR_i, lkR_fl, lkR_l, lkR_ex, beq_tt, beq_tf, beq_ft, beq_ff, siS_eq, siQ_fl, siR_0, siR_2, ixD_l0, ixD_l1, ixD_l2, bitsD_i, rngS1_eq, bd_ok, bd_ex, bs_ok, bs_ex, fz_d, fz_fl, fz_ex, up_ok, up_ex, oo_ok, oo_ex, lk_v, lk_s, lks_nil, lks_cons, ret_some, ret_none, Option.bind_some, Option.map_some, List.length_cons, List.length_nil, if_true, Bool.false_eq_true, if_false, Bool.not_true, Bool.not_false, List.map_cons, List.map_nil, List.cons_append, List.nil_append, List.append_nil, Nat.reduceAdd, Nat.reduceLT, Nat.zero_add, Nat.reduceLeDiff, eq_self, true_and, and_true, e1, ixD_l (Ev.atI_nat hx)]; rfl⟩
  · have e1 : decide ((i : Int) < ((ns.map PyData.int).length : Int)) = false := decide_eq_false (by simpa using hi)
    have e2 : ∃ s : Int, sumD [.list (cutD (ns.map PyData.int) none (some 1))] = some (.d (.int s)) := by
      cases ns with
      | nil => exact ⟨0, rfl⟩
      | cons a l => 
        have hc : Ev.cutD ((a :: l).map PyData.int) none (some 1) = [.int a] := by unfold Ev.cutD; simp [HT.sIx]
        exact ⟨a + 0, by rw [hc]; rfl⟩
    obtain ⟨s, e2⟩ := e2
    have n1 : (1000003 : Int) ≠ 0 := by decide
    exact ⟨s.fmod 1000003, _, by simp only [gt_0, pt_0, gt_1, gt_2, gt_3, gt_4, gt_5, gt_6, gt_7, gt_8, gt_9, pt_1, pt_2, pt_3, pt_4, pt_5, pt_6, pt_7, pt_8, pt_9, co_d, co_fl, frz_d, frz_fl, sqS_eq, sq_nx, sq_rt, sq_bk, sq_ct, sq_ex, skp_eq, rtS_eq, asS_eq, ifS_eq, exS_eq, raS_eq, fin_rt, fin_nx, fin_ex, eC_eq, oV_eq, oVr_some, eV_eq, eVr_some, eM_eq, eMr_some, op1_eq, op2_eq, opn_eq, nilA_eq, consA_eq, tst_eq, tstB_ok, ifE_eq, ifR_t, ifR_f, andT_eq, orT_eq, andR_t, andR_f, orR_f, orR_t, notT_eq, dsO_nil, dsO_cons, tupE_eq, lstE_eq, tupR_some, lstR_some, callE_eq, callR_ok, callR_ex, ar_v, ar_s, refs_nil, refs_v, refs_s, bk_nil, bk_v, bk_s, bk_e, noP_eq, soP_eq, soB_int, smE_eq, smR_str, slE_eq, binA_i, binS_i, cmpE_i, cmpE_s, cmpE_b, cmpN_i, cmpN_s, cmpN_b, cmpI_i, absD_i, maxD_i, intD_i, intD_b, negD_i, lenD_l, lenD_t, ixD_t0, ixD_t1, fzc_eq, upc_eq, ooc_eq, hide_nil, hide_cons, back_nil, back_cons, bk_v1, bk_v2, nmG_eq, yesT_eq, compE_eq, compK_ok, anyS_eq, anyR_some, srO_v, srO_vs, srO_s, srR_fl, srR_d, srR_str, cmpIn_s, cmpNin_s, cm2_eq, cmR_t, cmR_f, andE_eq, orE_eq, notE_eq, andV_t, andV_f, orV_f, orV_t, notV_b, parS_eq, parR_2, callO_v, callO_vv, callO_vvv, callO_s, callO_sv, callO_svv, slD_l, allD_1, allD_2, isN_eq, forS_eq, forR_nil, enumS_eq, enR_some, isiD_str, lkN_s, lkN_v0, lkN_vi, lkR_0, lkR_i, lkR_fl, lkR_l, lkR_ex, beq_tt, beq_tf, beq_ft, beq_ff, siS_eq, siQ_fl, siR_0, siR_2, ixD_l0, ixD_l1, ixD_l2, bitsD_i, rngS1_eq, bd_ok, bd_ex, bs_ok, bs_ex, fz_d, fz_fl, fz_ex, up_ok, up_ex, oo_ok, oo_ex, lk_v, lk_s, lks_nil, lks_cons, ret_some, ret_none, Option.bind_some, Option.map_some, List.length_cons, List.length_nil, if_true, Bool.false_eq_true, if_false, Bool.not_true, Bool.not_false, List.map_cons, List.map_nil, List.cons_append, List.nil_append, List.append_nil, Nat.reduceAdd, Nat.reduceLT, Nat.zero_add, Nat.reduceLeDiff, eq_self, true_and, and_true, e1, e2, modR n1]; rfl⟩
theorem e_law_generator (ns : List Int) (i : Nat) (hi : i < 6) : ∃ (g : List PyData) (ρ : Sl), f_x_law_generator [some (.d (.list (ns.map .int))), iD (i : Int)] = .ok (.fl g) ρ ∧ Gn g 6000 := by
  rw [show f_x_law_generator [some (.d (.list (ns.map .int))), iD (i : Int)] = finR 2 [2] (s_x_law_generator [some (.d (.list (ns.map .int))), iD (i : Int), none]) from bodyR_eq ..]
  unfold s_x_law_generator
  obtain ⟨c, ρ1, ec⟩ := e_law_cell ns i
  have p1 : binP (.int 10) (.int 18) = some (.d (.int (10 ^ 18))) := powP ⟨by decide, by decide +kernel⟩
  have p2 : binP (.int 10) (.int 60) = some (.d (.int (10 ^ 60))) := powP ⟨by decide, by decide +kernel⟩
  have p3 : binP (.int (10 ^ 60)) (.int 10) = some (.d (.int ((10 ^ 60) ^ 10))) := powP ⟨by decide, by decide +kernel⟩
  have n3 : ((10 : Int) ^ 60) ^ 10 ≠ 0 := by decide +kernel
  have n2 : (2147483647 : Int) ≠ 0 := by decide
  have m1 : mulB 1000 (i : Int) = true := mulB_l (by decide)
  have hq := fmodB c 2147483647 (by decide)
  generalize hP : ((10 : Int) ^ 60) ^ 10 = P at p3 n3
  generalize hP1 : ((10 : Int) ^ 60) = P1 at p2 p3
  generalize hP2 : ((10 : Int) ^ 18) = P2 at p1
  refine ⟨[.int ((if (0 : Int) > c - P2 then (0 : Int) else c - P2).fmod P), .int (c.fmod 2147483647), .int (1000 * (i : Int))], _, by simp only [gt_0, pt_0, gt_1, gt_2, gt_3, gt_4, gt_5, gt_6, gt_7, gt_8, gt_9, pt_1, pt_2, pt_3, pt_4, pt_5, pt_6, pt_7, pt_8, pt_9, co_d, co_fl, frz_d, frz_fl, sqS_eq, sq_nx, sq_rt, sq_bk, sq_ct, sq_ex, skp_eq, rtS_eq, asS_eq, ifS_eq, exS_eq, raS_eq, fin_rt, fin_nx, fin_ex, eC_eq, oV_eq, oVr_some, eV_eq, eVr_some, eM_eq, eMr_some, op1_eq, op2_eq, opn_eq, nilA_eq, consA_eq, tst_eq, tstB_ok, ifE_eq, ifR_t, ifR_f, andT_eq, orT_eq, andR_t, andR_f, orR_f, orR_t, notT_eq, dsO_nil, dsO_cons, tupE_eq, lstE_eq, tupR_some, lstR_some, callE_eq, callR_ok, callR_ex, ar_v, ar_s, refs_nil, refs_v, refs_s, bk_nil, bk_v, bk_s, bk_e, noP_eq, soP_eq, soB_int, smE_eq, smR_str, slE_eq, binA_i, binS_i, cmpE_i, cmpE_s, cmpE_b, cmpN_i, cmpN_s, cmpN_b, cmpI_i, absD_i, maxD_i, intD_i, intD_b, negD_i, lenD_l, lenD_t, ixD_t0, ixD_t1, fzc_eq, upc_eq, ooc_eq, hide_nil, hide_cons, back_nil, back_cons, bk_v1, bk_v2, nmG_eq, yesT_eq, compE_eq, compK_ok, anyS_eq, anyR_some, srO_v, srO_vs, srO_s, srR_fl, srR_d, srR_str, cmpIn_s, cmpNin_s, cm2_eq, cmR_t, cmR_f, andE_eq, orE_eq, notE_eq, andV_t, andV_f, orV_f, orV_t, notV_b, parS_eq, parR_2, callO_v, callO_vv, callO_vvv, callO_s, callO_sv, callO_svv, slD_l, allD_1, allD_2, isN_eq, forS_eq, forR_nil, enumS_eq, enR_some, isiD_str, lkN_s, lkN_v0, lkN_vi, lkR_0, lkR_i, lkR_fl, lkR_l, lkR_ex, beq_tt, beq_tf, beq_ft, beq_ff, siS_eq, siQ_fl, siR_0, siR_2, ixD_l0, ixD_l1, ixD_l2, bitsD_i, rngS1_eq, bd_ok, bd_ex, bs_ok, bs_ex, fz_d, fz_fl, fz_ex, up_ok, up_ex, oo_ok, oo_ex, lk_v, lk_s, lks_nil, lks_cons, ret_some, ret_none, Option.bind_some, Option.map_some, List.length_cons, List.length_nil, if_true, Bool.false_eq_true, if_false, Bool.not_true, Bool.not_false, List.map_cons, List.map_nil, List.cons_append, List.nil_append, List.append_nil, Nat.reduceAdd, Nat.reduceLT, Nat.zero_add, Nat.reduceLeDiff, eq_self, true_and, and_true, ec, p1, p2, p3, modR n3, modR n2, mulM m1]; rfl, ⟨_, _, 1000 * i, rfl, by omega, by omega⟩⟩
end K85
set_option Elab.async false
set_option maxRecDepth 100000
set_option maxHeartbeats 4000000
namespace K85
open PySem PySem.Spec PyProof.Rows L2 Ev
def Cel (x : PyData) : Prop := ∃ a b : Int, x = .tuple [.int a, .int b] ∧ a.natAbs ≤ 100 ∧ 1 ≤ b ∧ b ≤ 100
theorem low_cel {a b : Int} (ha : a.natAbs ≤ 100) (h1 : 1 ≤ b) (h2 : b ≤ 100) : Cel (low a b) := by
  have h3 := fdiv_abs a (Nat.gcd a.natAbs b.natAbs)
  have h4 := fdiv_abs b (Nat.gcd a.natAbs b.natAbs)
  refine ⟨_, _, rfl, by omega, ?_, by omega⟩
  rw [Int.fdiv_eq_ediv_of_nonneg _ (by omega)]
  have hp : 0 < Nat.gcd a.natAbs b.natAbs := Nat.gcd_pos_of_pos_right _ (by omega)
  refine Int.le_ediv_of_mul_le (by omega) ?_
  have := Nat.gcd_le_right (n := b.natAbs) a.natAbs (by omega)
  omega
theorem e_times {x : PyData} (h : ∃ a b : Int, x = .tuple [.int a, .int b] ∧ a.natAbs ≤ 50 ∧ 1 ≤ b ∧ b ≤ 100) : ∃ y ρ, f_x_law_times [some (.d x), some (.d (.tuple [.int (0 - 2), .int 1]))] = .ok (.d y) ρ ∧ Cel y := by
  obtain ⟨a, b, rfl, ha, h1, h2⟩ := h
  rw [show f_x_law_times [some (.d (.tuple [.int a, .int b])), some (.d (.tuple [.int (0 - 2), .int 1]))] = finR 2 [] (s_x_law_times [some (.d (.tuple [.int a, .int b])), some (.d (.tuple [.int (0 - 2), .int 1]))]) from bodyR_eq ..]
  unfold s_x_law_times
  have m1 : mulB a (0 - 2) = true := mulB_r (by decide)
  have m2 : mulB b 1 = true := mulB_r (by decide)
  obtain ⟨ρ, e⟩ := e_law_lowest (a * (0 - 2)) (b * 1) (by omega) (by omega)
  refine ⟨low (a * (0 - 2)) (b * 1), _, by simp only [gt_0, pt_0, gt_1, gt_2, gt_3, gt_4, gt_5, gt_6, gt_7, gt_8, gt_9, pt_1, pt_2, pt_3, pt_4, pt_5, pt_6, pt_7, pt_8, pt_9, co_d, co_fl, frz_d, frz_fl, sqS_eq, sq_nx, sq_rt, sq_bk, sq_ct, sq_ex, skp_eq, rtS_eq, asS_eq, ifS_eq, exS_eq, raS_eq, fin_rt, fin_nx, fin_ex, eC_eq, oV_eq, oVr_some, eV_eq, eVr_some, eM_eq, eMr_some, op1_eq, op2_eq, opn_eq, nilA_eq, consA_eq, tst_eq, tstB_ok, ifE_eq, ifR_t, ifR_f, andT_eq, orT_eq, andR_t, andR_f, orR_f, orR_t, notT_eq, dsO_nil, dsO_cons, tupE_eq, lstE_eq, tupR_some, lstR_some, callE_eq, callR_ok, callR_ex, ar_v, ar_s, refs_nil, refs_v, refs_s, bk_nil, bk_v, bk_s, bk_e, noP_eq, soP_eq, soB_int, smE_eq, smR_str, slE_eq, binA_i, binS_i, cmpE_i, cmpE_s, cmpE_b, cmpN_i, cmpN_s, cmpN_b, cmpI_i, absD_i, maxD_i, intD_i, intD_b, negD_i, lenD_l, lenD_t, ixD_t0, ixD_t1, fzc_eq, upc_eq, ooc_eq, hide_nil, hide_cons, back_nil, back_cons, bk_v1, bk_v2, nmG_eq, yesT_eq, compE_eq, compK_ok, anyS_eq, anyR_some, srO_v, srO_vs, srO_s, srR_fl, srR_d, srR_str, cmpIn_s, cmpNin_s, cm2_eq, cmR_t, cmR_f, andE_eq, orE_eq, notE_eq, andV_t, andV_f, orV_f, orV_t, notV_b, parS_eq, parR_2, callO_v, callO_vv, callO_vvv, callO_s, callO_sv, callO_svv, slD_l, allD_1, allD_2, isN_eq, forS_eq, forR_nil, enumS_eq, enR_some, isiD_str, lkN_s, lkN_v0, lkN_vi, lkR_0, lkR_i, lkR_fl, lkR_l, lkR_ex, beq_tt, beq_tf, beq_ft, beq_ff, siS_eq, siQ_fl, siR_0, siR_2, ixD_l0, ixD_l1, ixD_l2, bitsD_i, rngS1_eq, bd_ok, bd_ex, bs_ok, bs_ex, fz_d, fz_fl, fz_ex, up_ok, up_ex, oo_ok, oo_ex, lk_v, lk_s, lks_nil, lks_cons, ret_some, ret_none, Option.bind_some, Option.map_some, List.length_cons, List.length_nil, if_true, Bool.false_eq_true, if_false, Bool.not_true, Bool.not_false, List.map_cons, List.map_nil, List.cons_append, List.nil_append, List.append_nil, Nat.reduceAdd, Nat.reduceLT, Nat.zero_add, Nat.reduceLeDiff, eq_self, true_and, and_true, mulM m1, mulM m2, e]; rfl, low_cel (by omega) (by omega) (by omega)⟩
/-- a cell as drawn -/
def Cel0 (x : PyData) : Prop := ∃ a b : Int, x = .tuple [.int a, .int b] ∧ a.natAbs ≤ 50 ∧ 1 ≤ b ∧ b ≤ 100
theorem low_cel0 {a b : Int} (ha : a.natAbs ≤ 50) (h1 : 1 ≤ b) (h2 : b ≤ 100) : Cel0 (low a b) := by
  obtain ⟨p, q, e, _, h3, h4⟩ := low_cel (a := a) (b := b) (by omega) h1 h2
  refine ⟨p, q, e, ?_, h3, h4⟩
  have h5 := fdiv_abs a (Nat.gcd a.natAbs b.natAbs)
  injection e with e
  injection e with e _
  injection e with e
  omega
theorem Cel0.cel {x : PyData} (h : Cel0 x) : Cel x := by
  obtain ⟨a, b, e, h1, h2, h3⟩ := h
  exact ⟨a, b, e, by omega, h2, h3⟩
noncomputable abbrev elS : SD := fzc (callE 2 f_x_law_lowest (consA (ooc (fzc (op2 binS (ooc (fzc (callE 2 f_x_law_random (consA (oV 0) (consA (ooc (eC (.int 5))) nilA))))) (ooc (eC (.int 2)))))) (consA (ooc (fzc (op2 binA (ooc (eC (.int 1))) (ooc (fzc (opn intD (consA (ooc (fzc (op2 cmpE (ooc (fzc (callE 2 f_x_law_random (consA (oV 0) (consA (ooc (eC (.int 6))) nilA))))) (ooc (eC (.int 0)))))) nilA))))))) nilA)))
theorem el_ok {g : List PyData} {n : Nat} (hg : Gn g n) (hn : n < 2 ^ 39) (o1 o2 o3 o4 o5 o6 o7 o8 o9 : Option W) : ∃ x g', elS [some (.fl g), o1, o2, o3, o4, o5, o6, o7, o8, o9] = .ok x [some (.fl g'), o1, o2, o3, o4, o5, o6, o7, o8, o9] ∧ Cel0 x ∧ Gn g' (n + 2) := by
  obtain ⟨r, g1, e1, hr, h1⟩ : ∃ (r : Nat) (g' : List PyData), f_x_law_random [some (.fl g), iD 5] = .ok (.d (.int (r : Int))) [some (.fl g'), iD 5] ∧ r < 5 ∧ Gn g' (n + 1) := e_random hg (by omega) 5 (by decide) (by decide)
  obtain ⟨s, g2, e2, hs, h2⟩ : ∃ (r : Nat) (g' : List PyData), f_x_law_random [some (.fl g1), iD 6] = .ok (.d (.int (r : Int))) [some (.fl g'), iD 6] ∧ r < 6 ∧ Gn g' (n + 1 + 1) := e_random h1 (by omega) 6 (by decide) (by decide)
  unfold elS
  cases hq : ((s : Int) == 0) with
  | true =>
    obtain ⟨ρ, e⟩ := e_law_lowest ((r : Int) - 2) (1 + 1) (by decide) (by decide)
    exact ⟨low ((r : Int) - 2) (1 + 1), g2, by simp only [gt_0, pt_0, gt_1, gt_2, gt_3, gt_4, gt_5, gt_6, gt_7, gt_8, gt_9, pt_1, pt_2, pt_3, pt_4, pt_5, pt_6, pt_7, pt_8, pt_9, co_d, co_fl, frz_d, frz_fl, sqS_eq, sq_nx, sq_rt, sq_bk, sq_ct, sq_ex, skp_eq, rtS_eq, asS_eq, ifS_eq, exS_eq, raS_eq, fin_rt, fin_nx, fin_ex, eC_eq, oV_eq, oVr_some, eV_eq, eVr_some, eM_eq, eMr_some, op1_eq, op2_eq, opn_eq, nilA_eq, consA_eq, tst_eq, tstB_ok, ifE_eq, ifR_t, ifR_f, andT_eq, orT_eq, andR_t, andR_f, orR_f, orR_t, notT_eq, dsO_nil, dsO_cons, tupE_eq, lstE_eq, tupR_some, lstR_some, callE_eq, callR_ok, callR_ex, ar_v, ar_s, refs_nil, refs_v, refs_s, bk_nil, bk_v, bk_s, bk_e, noP_eq, soP_eq, soB_int, smE_eq, smR_str, slE_eq, binA_i, binS_i, cmpE_i, cmpE_s, cmpE_b, cmpN_i, cmpN_s, cmpN_b, cmpI_i, absD_i, maxD_i, intD_i, intD_b, negD_i, lenD_l, lenD_t, ixD_t0, ixD_t1, fzc_eq, upc_eq, ooc_eq, hide_nil, hide_cons, back_nil, back_cons, bk_v1, bk_v2, nmG_eq, yesT_eq, compE_eq, compK_ok, anyS_eq, anyR_some, srO_v, srO_vs, srO_s, srR_fl, srR_d, srR_str, cmpIn_s, cmpNin_s, cm2_eq, cmR_t, cmR_f, andE_eq, orE_eq, notE_eq, andV_t, andV_f, orV_f, orV_t, notV_b, parS_eq, parR_2, callO_v, callO_vv, callO_vvv, callO_s, callO_sv, callO_svv, slD_l, allD_1, allD_2, isN_eq, forS_eq, forR_nil, enumS_eq, enR_some, isiD_str, lkN_s, lkN_v0, lkN_vi, lkR_0, lkR_i, lkR_fl, lkR_l, lkR_ex, beq_tt, beq_tf, beq_ft, beq_ff, siS_eq, siQ_fl, siR_0, siR_2, ixD_l0, ixD_l1, ixD_l2, bitsD_i, rngS1_eq, bd_ok, bd_ex, bs_ok, bs_ex, fz_d, fz_fl, fz_ex, up_ok, up_ex, oo_ok, oo_ex, lk_v, lk_s, lks_nil, lks_cons, ret_some, ret_none, Option.bind_some, Option.map_some, List.length_cons, List.length_nil, if_true, Bool.false_eq_true, if_false, Bool.not_true, Bool.not_false, List.map_cons, List.map_nil, List.cons_append, List.nil_append, List.append_nil, Nat.reduceAdd, Nat.reduceLT, Nat.zero_add, Nat.reduceLeDiff, eq_self, true_and, and_true, e1, e2, hq, e], low_cel0 (by omega) (by decide) (by decide), h2⟩
  | false =>
    obtain ⟨ρ, e⟩ := e_law_lowest ((r : Int) - 2) (1 + 0) (by decide) (by decide)
    exact ⟨low ((r : Int) - 2) (1 + 0), g2, by simp only [gt_0, pt_0, gt_1, gt_2, gt_3, gt_4, gt_5, gt_6, gt_7, gt_8, gt_9, pt_1, pt_2, pt_3, pt_4, pt_5, pt_6, pt_7, pt_8, pt_9, co_d, co_fl, frz_d, frz_fl, sqS_eq, sq_nx, sq_rt, sq_bk, sq_ct, sq_ex, skp_eq, rtS_eq, asS_eq, ifS_eq, exS_eq, raS_eq, fin_rt, fin_nx, fin_ex, eC_eq, oV_eq, oVr_some, eV_eq, eVr_some, eM_eq, eMr_some, op1_eq, op2_eq, opn_eq, nilA_eq, consA_eq, tst_eq, tstB_ok, ifE_eq, ifR_t, ifR_f, andT_eq, orT_eq, andR_t, andR_f, orR_f, orR_t, notT_eq, dsO_nil, dsO_cons, tupE_eq, lstE_eq, tupR_some, lstR_some, callE_eq, callR_ok, callR_ex, ar_v, ar_s, refs_nil, refs_v, refs_s, bk_nil, bk_v, bk_s, bk_e, noP_eq, soP_eq, soB_int, smE_eq, smR_str, slE_eq, binA_i, binS_i, cmpE_i, cmpE_s, cmpE_b, cmpN_i, cmpN_s, cmpN_b, cmpI_i, absD_i, maxD_i, intD_i, intD_b, negD_i, lenD_l, lenD_t, ixD_t0, ixD_t1, fzc_eq, upc_eq, ooc_eq, hide_nil, hide_cons, back_nil, back_cons, bk_v1, bk_v2, nmG_eq, yesT_eq, compE_eq, compK_ok, anyS_eq, anyR_some, srO_v, srO_vs, srO_s, srR_fl, srR_d, srR_str, cmpIn_s, cmpNin_s, cm2_eq, cmR_t, cmR_f, andE_eq, orE_eq, notE_eq, andV_t, andV_f, orV_f, orV_t, notV_b, parS_eq, parR_2, callO_v, callO_vv, callO_vvv, callO_s, callO_sv, callO_svv, slD_l, allD_1, allD_2, isN_eq, forS_eq, forR_nil, enumS_eq, enR_some, isiD_str, lkN_s, lkN_v0, lkN_vi, lkR_0, lkR_i, lkR_fl, lkR_l, lkR_ex, beq_tt, beq_tf, beq_ft, beq_ff, siS_eq, siQ_fl, siR_0, siR_2, ixD_l0, ixD_l1, ixD_l2, bitsD_i, rngS1_eq, bd_ok, bd_ex, bs_ok, bs_ex, fz_d, fz_fl, fz_ex, up_ok, up_ex, oo_ok, oo_ex, lk_v, lk_s, lks_nil, lks_cons, ret_some, ret_none, Option.bind_some, Option.map_some, List.length_cons, List.length_nil, if_true, Bool.false_eq_true, if_false, Bool.not_true, Bool.not_false, List.map_cons, List.map_nil, List.cons_append, List.nil_append, List.append_nil, Nat.reduceAdd, Nat.reduceLT, Nat.zero_add, Nat.reduceLeDiff, eq_self, true_and, and_true, e1, e2, hq, e], low_cel0 (by omega) (by decide) (by decide), h2⟩
theorem row_go (o1 o2 o3 o4 o5 o6 o7 o8 : Option W) : ∀ (xs : List PyData) (g : List PyData) (n : Nat), Gn g n → n + 2 * xs.length < 2 ^ 39 → ∃ ys g', compGo ([9] ++ []) (nmG 9) yesT elS xs [some (.fl g), o1, o2, o3, o4, o5, o6, o7, o8, none] = some (ys, [some (.fl g'), o1, o2, o3, o4, o5, o6, o7, o8, none]) ∧ ys.length = xs.length ∧ (∀ y ∈ ys, Cel0 y) ∧ Gn g' (n + 2 * xs.length)
  | [], g, n, hg, _ => ⟨[], g, rfl, rfl, by simp, hg⟩
  | x :: xs, g, n, hg, hn => by
    rw [List.length_cons] at hn
    obtain ⟨y, g1, e1, c1, h1⟩ := el_ok hg (by omega) o1 o2 o3 o4 o5 o6 o7 o8 (some (.d x))
    obtain ⟨ys, g2, e2, l2, c2, h2⟩ := row_go o1 o2 o3 o4 o5 o6 o7 o8 xs g1 (n + 2) h1 (by omega)
    refine ⟨y :: ys, g2, ?_, by simp [l2], ?_, by rw [List.length_cons, show n + 2 * (xs.length + 1) = n + 2 + 2 * xs.length by omega]; exact h2⟩
    · unfold compGo
      simp only [nmG_eq, List.length_cons, List.length_nil, Nat.reduceAdd, Nat.reduceLT, if_true, pt_9, yesT_eq, e1]
      show ((compGo ([9] ++ []) (nmG 9) yesT elS xs [some (.fl g1), o1, o2, o3, o4, o5, o6, o7, o8, none]).map fun p => (y :: p.1, p.2)) = _
      rw [e2]
      rfl
    · intro z hz
      rcases List.mem_cons.1 hz with rfl | hz
      · exact c1
      · exact c2 z hz
end K85
set_option Elab.async false
set_option maxRecDepth 100000
set_option maxHeartbeats 1000000
namespace K85
open PySem PySem.Spec PyProof.Rows L2 Ev
def Row (P : PyData → Prop) (m : Nat) (w : W) : Prop := ∃ xs, w = .fl xs ∧ xs.length = m ∧ ∀ x ∈ xs, P x
theorem cowGo_cons {js : List Nat} {tg : ST'} {cd : ST} {el : SE} {x : PyData} {xs : List PyData} {ρ ρ2 ρ3 ρ4 ρ5 : Sl} {y : W} {ys : List W} (h1 : tg x ρ = some ρ2) (h2 : cd ρ2 = .ok true ρ3) (h3 : el ρ3 = .ok y ρ4) (h4 : cowGo js tg cd el xs (hide js ρ4) = some (ys, ρ5)) : cowGo js tg cd el (x :: xs) ρ = some (y :: ys, ρ5) := by
  unfold cowGo
  rw [h1]
  simp only [h2, h3, h4]
  rfl
noncomputable def rwE : SE := compE [9] (nmG 9) yesT elS (rngS1 (eV 4))
theorem row_e {g : List PyData} {n m : Nat} (hg : Gn g n) (hm : m ≤ 64) (hn : n + 2 * m < 2 ^ 39) (o1 o2 o3 o5 o6 o7 o8 : Option W) : ∃ w g', rwE [some (.fl g), o1, o2, o3, iD (m : Int), o5, o6, o7, o8, none] = .ok w [some (.fl g'), o1, o2, o3, iD (m : Int), o5, o6, o7, o8, none] ∧ Row Cel0 m w ∧ Gn g' (n + 2 * m) := by
  have hl : (rangeD 0 m).length = m := by simp [rangeD]
  have hL : (rangeD 0 m).length ≤ 16777216 := by rw [hl]; exact Nat.le_trans hm (by decide)
  have h61 : m < 2 ^ 61 := Nat.lt_of_le_of_lt hm (by decide)
  obtain ⟨ys, g', e, l, c, h⟩ := row_go o1 o2 o3 (iD (m : Int)) o5 o6 o7 o8 (rangeD 0 m) g n hg (by omega)
  refine ⟨.fl ys, g', ?_, ⟨ys, rfl, by omega, c⟩, by rw [hl] at h; exact h⟩
  have hc : compR [9] (nmG 9) yesT elS (rangeD 0 m, []) [some (.fl g), o1, o2, o3, iD (m : Int), o5, o6, o7, o8, none] = .ok (.fl ys) [some (.fl g'), o1, o2, o3, iD (m : Int), o5, o6, o7, o8, none] := compR_ok (ρ2 := [some (.fl g'), o1, o2, o3, iD (m : Int), o5, o6, o7, o8, none]) hL e
  have hr : rngS1 (eV 4) [some (.fl g), o1, o2, o3, iD (m : Int), o5, o6, o7, o8, none] = .ok (rangeD 0 m, []) [some (.fl g), o1, o2, o3, iD (m : Int), o5, o6, o7, o8, none] := by
    have e4 : eV 4 [some (.fl g), o1, o2, o3, iD (m : Int), o5, o6, o7, o8, none] = .ok (.int (m : Int)) [some (.fl g), o1, o2, o3, iD (m : Int), o5, o6, o7, o8, none] := by simp only [gt_0, pt_0, gt_1, gt_2, gt_3, gt_4, gt_5, gt_6, gt_7, gt_8, gt_9, pt_1, pt_2, pt_3, pt_4, pt_5, pt_6, pt_7, pt_8, pt_9, co_d, co_fl, frz_d, frz_fl, sqS_eq, sq_nx, sq_rt, sq_bk, sq_ct, sq_ex, skp_eq, rtS_eq, asS_eq, ifS_eq, exS_eq, raS_eq, fin_rt, fin_nx, fin_ex, eC_eq, oV_eq, oVr_some, eV_eq, eVr_some, eM_eq, eMr_some, op1_eq, op2_eq, opn_eq, nilA_eq, consA_eq, tst_eq, tstB_ok, ifE_eq, ifR_t, ifR_f, andT_eq, orT_eq, andR_t, andR_f, orR_f, orR_t, notT_eq, dsO_nil, dsO_cons, tupE_eq, lstE_eq, tupR_some, lstR_some, callE_eq, callR_ok, callR_ex, ar_v, ar_s, refs_nil, refs_v, refs_s, bk_nil, bk_v, bk_s, bk_e, noP_eq, soP_eq, soB_int, smE_eq, smR_str, slE_eq, binA_i, binS_i, cmpE_i, cmpE_s, cmpE_b, cmpN_i, cmpN_s, cmpN_b, cmpI_i, absD_i, maxD_i, intD_i, intD_b, negD_i, lenD_l, lenD_t, ixD_t0, ixD_t1, fzc_eq, upc_eq, ooc_eq, hide_nil, hide_cons, back_nil, back_cons, bk_v1, bk_v2, nmG_eq, yesT_eq, compE_eq, compK_ok, anyS_eq, anyR_some, srO_v, srO_vs, srO_s, srR_fl, srR_d, srR_str, cmpIn_s, cmpNin_s, cm2_eq, cmR_t, cmR_f, andE_eq, orE_eq, notE_eq, andV_t, andV_f, orV_f, orV_t, notV_b, parS_eq, parR_2, callO_v, callO_vv, callO_vvv, callO_s, callO_sv, callO_svv, slD_l, allD_1, allD_2, isN_eq, forS_eq, forR_nil, enumS_eq, enR_some, isiD_str, lkN_s, lkN_v0, lkN_vi, lkR_0, lkR_i, lkR_fl, lkR_l, lkR_ex, beq_tt, beq_tf, beq_ft, beq_ff, siS_eq, siQ_fl, siR_0, siR_2, ixD_l0, ixD_l1, ixD_l2, bitsD_i, rngS1_eq, bd_ok, bd_ex, bs_ok, bs_ex, fz_d, fz_fl, fz_ex, up_ok, up_ex, oo_ok, oo_ex, lk_v, lk_s, lks_nil, lks_cons, ret_some, ret_none, Option.bind_some, Option.map_some, List.length_cons, List.length_nil, if_true, Bool.false_eq_true, if_false, Bool.not_true, Bool.not_false, List.map_cons, List.map_nil, List.cons_append, List.nil_append, List.append_nil, Nat.reduceAdd, Nat.reduceLT, Nat.zero_add, Nat.reduceLeDiff, eq_self, true_and, and_true]
    rw [rngS1_eq, e4, bd_ok, rgR_ok _ m h61]
  show compE [9] (nmG 9) yesT elS (rngS1 (eV 4)) _ = _
  rw [compE_eq, hr, compK_ok, hc]
theorem cow_go (m : Nat) (hm : m ≤ 64) (o1 o2 o3 o5 o6 o7 : Option W) : ∀ (xs : List PyData) (g : List PyData) (n : Nat), Gn g n → n + 2 * m * xs.length < 2 ^ 39 → ∃ ws g', cowGo ([8] ++ []) (nmG 8) yesT rwE xs [some (.fl g), o1, o2, o3, iD (m : Int), o5, o6, o7, none, none] = some (ws, [some (.fl g'), o1, o2, o3, iD (m : Int), o5, o6, o7, none, none]) ∧ ws.length = xs.length ∧ (∀ w ∈ ws, Row Cel0 m w) ∧ Gn g' (n + 2 * m * xs.length)
  | [], g, n, hg, _ => ⟨[], g, rfl, rfl, by simp, hg⟩
  | x :: xs, g, n, hg, hn => by
    have hx : 2 * m * (xs.length + 1) = 2 * m + 2 * m * xs.length := by rw [Nat.mul_succ, Nat.add_comm]
    rw [List.length_cons] at hn
    obtain ⟨y, g1, e1, c1, h1⟩ := row_e hg hm (by omega) o1 o2 o3 o5 o6 o7 (some (.d x))
    obtain ⟨ys, g2, e2, l2, c2, h2⟩ := cow_go m hm o1 o2 o3 o5 o6 o7 xs g1 (n + 2 * m) h1 (by omega)
    refine ⟨y :: ys, g2, ?_, by simp [l2], ?_, by rw [List.length_cons, show n + 2 * m * (xs.length + 1) = n + 2 * m + 2 * m * xs.length by omega]; exact h2⟩
    · have ht : nmG 8 x [some (.fl g), o1, o2, o3, iD (m : Int), o5, o6, o7, none, none] = some [some (.fl g), o1, o2, o3, iD (m : Int), o5, o6, o7, some (.d x), none] := by
        simp only [gt_0, pt_0, gt_1, gt_2, gt_3, gt_4, gt_5, gt_6, gt_7, gt_8, gt_9, pt_1, pt_2, pt_3, pt_4, pt_5, pt_6, pt_7, pt_8, pt_9, co_d, co_fl, frz_d, frz_fl, sqS_eq, sq_nx, sq_rt, sq_bk, sq_ct, sq_ex, skp_eq, rtS_eq, asS_eq, ifS_eq, exS_eq, raS_eq, fin_rt, fin_nx, fin_ex, eC_eq, oV_eq, oVr_some, eV_eq, eVr_some, eM_eq, eMr_some, op1_eq, op2_eq, opn_eq, nilA_eq, consA_eq, tst_eq, tstB_ok, ifE_eq, ifR_t, ifR_f, andT_eq, orT_eq, andR_t, andR_f, orR_f, orR_t, notT_eq, dsO_nil, dsO_cons, tupE_eq, lstE_eq, tupR_some, lstR_some, callE_eq, callR_ok, callR_ex, ar_v, ar_s, refs_nil, refs_v, refs_s, bk_nil, bk_v, bk_s, bk_e, noP_eq, soP_eq, soB_int, smE_eq, smR_str, slE_eq, binA_i, binS_i, cmpE_i, cmpE_s, cmpE_b, cmpN_i, cmpN_s, cmpN_b, cmpI_i, absD_i, maxD_i, intD_i, intD_b, negD_i, lenD_l, lenD_t, ixD_t0, ixD_t1, fzc_eq, upc_eq, ooc_eq, hide_nil, hide_cons, back_nil, back_cons, bk_v1, bk_v2, nmG_eq, yesT_eq, compE_eq, compK_ok, anyS_eq, anyR_some, srO_v, srO_vs, srO_s, srR_fl, srR_d, srR_str, cmpIn_s, cmpNin_s, cm2_eq, cmR_t, cmR_f, andE_eq, orE_eq, notE_eq, andV_t, andV_f, orV_f, orV_t, notV_b, parS_eq, parR_2, callO_v, callO_vv, callO_vvv, callO_s, callO_sv, callO_svv, slD_l, allD_1, allD_2, isN_eq, forS_eq, forR_nil, enumS_eq, enR_some, isiD_str, lkN_s, lkN_v0, lkN_vi, lkR_0, lkR_i, lkR_fl, lkR_l, lkR_ex, beq_tt, beq_tf, beq_ft, beq_ff, siS_eq, siQ_fl, siR_0, siR_2, ixD_l0, ixD_l1, ixD_l2, bitsD_i, rngS1_eq, bd_ok, bd_ex, bs_ok, bs_ex, fz_d, fz_fl, fz_ex, up_ok, up_ex, oo_ok, oo_ex, lk_v, lk_s, lks_nil, lks_cons, ret_some, ret_none, Option.bind_some, Option.map_some, List.length_cons, List.length_nil, if_true, Bool.false_eq_true, if_false, Bool.not_true, Bool.not_false, List.map_cons, List.map_nil, List.cons_append, List.nil_append, List.append_nil, Nat.reduceAdd, Nat.reduceLT, Nat.zero_add, Nat.reduceLeDiff, eq_self, true_and, and_true]
      have hh : hide ([8] ++ []) [some (.fl g1), o1, o2, o3, iD (m : Int), o5, o6, o7, some (.d x), none] = [some (.fl g1), o1, o2, o3, iD (m : Int), o5, o6, o7, none, none] := rfl
      exact cowGo_cons ht (yesT_eq _) e1 (by rw [hh]; exact e2)
    · intro z hz
      rcases List.mem_cons.1 hz with rfl | hz
      · exact c1
      · exact c2 z hz
/-- the walk that changes rows -/
noncomputable abbrev chS : SS := sqS (siS 8 (fzc (ifE (tst (op2 cmpN (oV 6) (oV 7))) (callE 2 f_x_law_times (consA (ooc (fzc (op2 ixD (oV 8) (oV 6)))) (consA (ooc (tupE (consA (ooc (fzc (op2 binS (ooc (eC (.int 0))) (ooc (eC (.int 2)))))) (consA (ooc (eC (.int 1))) nilA)))) nilA))) (op2 ixD (oV 8) (oV 7)))) (eV 7)) skp
theorem row_le {P Q : PyData → Prop} {m : Nat} {w : W} (h : ∀ x, P x → Q x) (r : Row P m w) : Row Q m w := by
  obtain ⟨xs, e, l, c⟩ := r
  exact ⟨xs, e, l, fun x hx => h x (c x hx)⟩
theorem ch_ok {m a b : Nat} (ha : a < m) (hb : b < m) {w : W} (r : Row Cel0 m w) (o0 o1 o2 o3 o4 o5 o9 : Option W) : ∃ w', chS [o0, o1, o2, o3, o4, o5, iD (a : Int), iD (b : Int), some w, o9] = .nx [o0, o1, o2, o3, o4, o5, iD (a : Int), iD (b : Int), some w', o9] ∧ Row Cel m w' := by
  obtain ⟨xs, rfl, hl, c⟩ := r
  obtain ⟨x, hx⟩ : ∃ x, xs[a]? = some x := ⟨xs[a], List.getElem?_eq_getElem (by omega)⟩
  obtain ⟨z, hz⟩ : ∃ x, xs[b]? = some x := ⟨xs[b], List.getElem?_eq_getElem (by omega)⟩
  obtain ⟨y, ρ, et, cy⟩ := e_times (c x (List.mem_of_getElem? hx))
  have cz := (c z (List.mem_of_getElem? hz)).cel
  have hi : ixN xs.length (b : Int) = some b := by unfold ixN; simp <;> omega
  have hs : ∀ y, Cel y → Row Cel m (.fl (xs.set b y)) := fun y hy => ⟨_, rfl, by simp [hl], fun u hu => by
    rcases List.mem_or_eq_of_mem_set hu with h | rfl
    · exact (c u h).cel
    · exact hy⟩
  unfold chS
  cases hq : (!((a : Int) == (b : Int))) with
  | true => exact ⟨_, by simp only [gt_0, pt_0, gt_1, gt_2, gt_3, gt_4, gt_5, gt_6, gt_7, gt_8, gt_9, pt_1, pt_2, pt_3, pt_4, pt_5, pt_6, pt_7, pt_8, pt_9, co_d, co_fl, frz_d, frz_fl, sqS_eq, sq_nx, sq_rt, sq_bk, sq_ct, sq_ex, skp_eq, rtS_eq, asS_eq, ifS_eq, exS_eq, raS_eq, fin_rt, fin_nx, fin_ex, eC_eq, oV_eq, oVr_some, eV_eq, eVr_some, eM_eq, eMr_some, op1_eq, op2_eq, opn_eq, nilA_eq, consA_eq, tst_eq, tstB_ok, ifE_eq, ifR_t, ifR_f, andT_eq, orT_eq, andR_t, andR_f, orR_f, orR_t, notT_eq, dsO_nil, dsO_cons, tupE_eq, lstE_eq, tupR_some, lstR_some, callE_eq, callR_ok, callR_ex, ar_v, ar_s, refs_nil, refs_v, refs_s, bk_nil, bk_v, bk_s, bk_e, noP_eq, soP_eq, soB_int, smE_eq, smR_str, slE_eq, binA_i, binS_i, cmpE_i, cmpE_s, cmpE_b, cmpN_i, cmpN_s, cmpN_b, cmpI_i, absD_i, maxD_i, intD_i, intD_b, negD_i, lenD_l, lenD_t, ixD_t0, ixD_t1, fzc_eq, upc_eq, ooc_eq, hide_nil, hide_cons, back_nil, back_cons, bk_v1, bk_v2, nmG_eq, yesT_eq, compE_eq, compK_ok, anyS_eq, anyR_some, srO_v, srO_vs, srO_s, srR_fl, srR_d, srR_str, cmpIn_s, cmpNin_s, cm2_eq, cmR_t, cmR_f, andE_eq, orE_eq, notE_eq, andV_t, andV_f, orV_f, orV_t, notV_b, parS_eq, parR_2, callO_v, callO_vv, callO_vvv, callO_s, callO_sv, callO_svv, slD_l, allD_1, allD_2, isN_eq, forS_eq, forR_nil, enumS_eq, enR_some, isiD_str, lkN_s, lkN_v0, lkN_vi, lkR_0, lkR_i, lkR_fl, lkR_l, lkR_ex, beq_tt, beq_tf, beq_ft, beq_ff, siS_eq, siQ_fl, siR_0, siR_2, ixD_l0, ixD_l1, ixD_l2, bitsD_i, rngS1_eq, bd_ok, bd_ex, bs_ok, bs_ex, fz_d, fz_fl, fz_ex, up_ok, up_ex, oo_ok, oo_ex, lk_v, lk_s, lks_nil, lks_cons, ret_some, ret_none, Option.bind_some, Option.map_some, List.length_cons, List.length_nil, if_true, Bool.false_eq_true, if_false, Bool.not_true, Bool.not_false, List.map_cons, List.map_nil, List.cons_append, List.nil_append, List.append_nil, Nat.reduceAdd, Nat.reduceLT, Nat.zero_add, Nat.reduceLeDiff, eq_self, true_and, and_true, hq, ixD_l (Ev.atI_nat hx), et, siR_ok hi], hs _ cy⟩
  | false => exact ⟨_, by simp only [gt_0, pt_0, gt_1, gt_2, gt_3, gt_4, gt_5, gt_6, gt_7, gt_8, gt_9, pt_1, pt_2, pt_3, pt_4, pt_5, pt_6, pt_7, pt_8, pt_9, co_d, co_fl, frz_d, frz_fl, sqS_eq, sq_nx, sq_rt, sq_bk, sq_ct, sq_ex, skp_eq, rtS_eq, asS_eq, ifS_eq, exS_eq, raS_eq, fin_rt, fin_nx, fin_ex, eC_eq, oV_eq, oVr_some, eV_eq, eVr_some, eM_eq, eMr_some, op1_eq, op2_eq, opn_eq, nilA_eq, consA_eq, tst_eq, tstB_ok, ifE_eq, ifR_t, ifR_f, andT_eq, orT_eq, andR_t, andR_f, orR_f, orR_t, notT_eq, dsO_nil, dsO_cons, tupE_eq, lstE_eq, tupR_some, lstR_some, callE_eq, callR_ok, callR_ex, ar_v, ar_s, refs_nil, refs_v, refs_s, bk_nil, bk_v, bk_s, bk_e, noP_eq, soP_eq, soB_int, smE_eq, smR_str, slE_eq, binA_i, binS_i, cmpE_i, cmpE_s, cmpE_b, cmpN_i, cmpN_s, cmpN_b, cmpI_i, absD_i, maxD_i, intD_i, intD_b, negD_i, lenD_l, lenD_t, ixD_t0, ixD_t1, fzc_eq, upc_eq, ooc_eq, hide_nil, hide_cons, back_nil, back_cons, bk_v1, bk_v2, nmG_eq, yesT_eq, compE_eq, compK_ok, anyS_eq, anyR_some, srO_v, srO_vs, srO_s, srR_fl, srR_d, srR_str, cmpIn_s, cmpNin_s, cm2_eq, cmR_t, cmR_f, andE_eq, orE_eq, notE_eq, andV_t, andV_f, orV_f, orV_t, notV_b, parS_eq, parR_2, callO_v, callO_vv, callO_vvv, callO_s, callO_sv, callO_svv, slD_l, allD_1, allD_2, isN_eq, forS_eq, forR_nil, enumS_eq, enR_some, isiD_str, lkN_s, lkN_v0, lkN_vi, lkR_0, lkR_i, lkR_fl, lkR_l, lkR_ex, beq_tt, beq_tf, beq_ft, beq_ff, siS_eq, siQ_fl, siR_0, siR_2, ixD_l0, ixD_l1, ixD_l2, bitsD_i, rngS1_eq, bd_ok, bd_ex, bs_ok, bs_ex, fz_d, fz_fl, fz_ex, up_ok, up_ex, oo_ok, oo_ex, lk_v, lk_s, lks_nil, lks_cons, ret_some, ret_none, Option.bind_some, Option.map_some, List.length_cons, List.length_nil, if_true, Bool.false_eq_true, if_false, Bool.not_true, Bool.not_false, List.map_cons, List.map_nil, List.cons_append, List.nil_append, List.append_nil, Nat.reduceAdd, Nat.reduceLT, Nat.zero_add, Nat.reduceLeDiff, eq_self, true_and, and_true, hq, ixD_l (Ev.atI_nat hz), siR_ok hi], hs _ cz⟩
theorem ow_go {m a b : Nat} (ha : a < m) (hb : b < m) (o0 o1 o2 o3 o4 o9 : Option W) : ∀ (ws dn : List W), (∀ w ∈ ws, Row Cel0 m w) → (∀ w ∈ dn, Row Cel m w) → ∃ ws', owGo 8 5 chS ws dn [o0, o1, o2, o3, o4, none, iD (a : Int), iD (b : Int), none, o9] = .nx [o0, o1, o2, o3, o4, some (.ow ws'), iD (a : Int), iD (b : Int), none, o9] ∧ ws'.length = dn.length + ws.length ∧ ∀ w ∈ ws', Row Cel m w
  | [], dn, _, hd => ⟨dn, rfl, rfl, hd⟩
  | w :: ws, dn, h, hd => by
    obtain ⟨w', e, r⟩ := ch_ok ha hb (h w List.mem_cons_self) o0 o1 o2 o3 o4 none o9
    obtain ⟨ws', e2, l2, c2⟩ := ow_go ha hb o0 o1 o2 o3 o4 o9 ws (dn ++ [w']) (fun w hw => h w (List.mem_cons_of_mem _ hw)) (fun u hu => by
      rcases List.mem_append.1 hu with hu | hu
      · exact hd u hu
      · rw [List.mem_singleton.1 hu]; exact r)
    refine ⟨ws', ?_, by rw [l2]; simp; omega, c2⟩
    unfold owGo
    simp only [pt_8, e, gt_8]
    exact e2
end K85
set_option Elab.async false
set_option maxRecDepth 100000
set_option maxHeartbeats 1000000
namespace K85
open PySem PySem.Spec PyProof.Rows L2 Ev
theorem cowE_ok {own : List Nat} {tg : ST'} {cd : ST} {el : SE} {src : SI} {xs : List PyData} {ln : List Nat} {ρ ρ1 ρ2 : Sl} {ys : List W} (h0 : src ρ = .ok (xs, ln) ρ1) (h : xs.length ≤ 16777216) (e : cowGo (own ++ ln) tg cd el xs (hide (own ++ ln) ρ1) = some (ys, ρ2)) : cowE own tg cd el src ρ = .ok (.ow ys) (back (own ++ ln) ρ1 ρ2) := by
  unfold cowE
  rw [h0]
  show cowR own tg cd el (xs, ln) ρ1 = _
  unfold cowR
  rw [if_pos h]
  simp only [e]
theorem forOw_ok {i j : Nat} {b : SS} {ρ : Sl} {ws : List W} {r : SR} (h : gt ρ j = some (.ow ws)) (h1 : i < ρ.length) (h2 : i ≠ j) (e : owGo i j b ws [] (pt (pt ρ i none) j none) = r) : forOwS i j b ρ = r := by
  unfold forOwS
  rw [h]
  show (if i < ρ.length ∧ i ≠ j then owGo i j b ws [] (pt (pt ρ i none) j none) else .no) = r
  rw [if_pos ⟨h1, h2⟩, e]
theorem cow_e {g : List PyData} {n h m : Nat} (hg : Gn g n) (hm : m ≤ 64) (hh : h ≤ 64) (hn : n ≤ 2 ^ 30) (o1 o2 : Option W) : ∃ ws g', cowE [8] (nmG 8) yesT rwE (rngS1 (eV 3)) [some (.fl g), o1, o2, iD (h : Int), iD (m : Int), none, none, none, none, none] = .ok (.ow ws) [some (.fl g'), o1, o2, iD (h : Int), iD (m : Int), none, none, none, none, none] ∧ ws.length = h ∧ (∀ w ∈ ws, Row Cel0 m w) ∧ Gn g' (n + 8192) := by
  have hl : (rangeD 0 h).length = h := by simp [rangeD]
  have hL : (rangeD 0 h).length ≤ 16777216 := by rw [hl]; exact Nat.le_trans hh (by decide)
  have h61 : h < 2 ^ 61 := Nat.lt_of_le_of_lt hh (by decide)
  have hp : m * h ≤ 64 * 64 := Nat.mul_le_mul hm hh
  have hp2 : 2 * m * (rangeD 0 h).length ≤ 8192 := by rw [hl, Nat.mul_assoc]; omega
  obtain ⟨ws, g', e, l, c, hg'⟩ := cow_go m hm o1 o2 (iD (h : Int)) none none none (rangeD 0 h) g n hg (by omega)
  have e3 : eV 3 [some (.fl g), o1, o2, iD (h : Int), iD (m : Int), none, none, none, none, none] = .ok (.int (h : Int)) [some (.fl g), o1, o2, iD (h : Int), iD (m : Int), none, none, none, none, none] := by simp only [gt_0, pt_0, gt_1, gt_2, gt_3, gt_4, gt_5, gt_6, gt_7, gt_8, gt_9, pt_1, pt_2, pt_3, pt_4, pt_5, pt_6, pt_7, pt_8, pt_9, co_d, co_fl, frz_d, frz_fl, sqS_eq, sq_nx, sq_rt, sq_bk, sq_ct, sq_ex, skp_eq, rtS_eq, asS_eq, ifS_eq, exS_eq, raS_eq, fin_rt, fin_nx, fin_ex, eC_eq, oV_eq, oVr_some, eV_eq, eVr_some, eM_eq, eMr_some, op1_eq, op2_eq, opn_eq, nilA_eq, consA_eq, tst_eq, tstB_ok, ifE_eq, ifR_t, ifR_f, andT_eq, orT_eq, andR_t, andR_f, orR_f, orR_t, notT_eq, dsO_nil, dsO_cons, tupE_eq, lstE_eq, tupR_some, lstR_some, callE_eq, callR_ok, callR_ex, ar_v, ar_s, refs_nil, refs_v, refs_s, bk_nil, bk_v, bk_s, bk_e, noP_eq, soP_eq, soB_int, smE_eq, smR_str, slE_eq, binA_i, binS_i, cmpE_i, cmpE_s, cmpE_b, cmpN_i, cmpN_s, cmpN_b, cmpI_i, absD_i, maxD_i, intD_i, intD_b, negD_i, lenD_l, lenD_t, ixD_t0, ixD_t1, fzc_eq, upc_eq, ooc_eq, hide_nil, hide_cons, back_nil, back_cons, bk_v1, bk_v2, nmG_eq, yesT_eq, compE_eq, compK_ok, anyS_eq, anyR_some, srO_v, srO_vs, srO_s, srR_fl, srR_d, srR_str, cmpIn_s, cmpNin_s, cm2_eq, cmR_t, cmR_f, andE_eq, orE_eq, notE_eq, andV_t, andV_f, orV_f, orV_t, notV_b, parS_eq, parR_2, callO_v, callO_vv, callO_vvv, callO_s, callO_sv, callO_svv, slD_l, allD_1, allD_2, isN_eq, forS_eq, forR_nil, enumS_eq, enR_some, isiD_str, lkN_s, lkN_v0, lkN_vi, lkR_0, lkR_i, lkR_fl, lkR_l, lkR_ex, beq_tt, beq_tf, beq_ft, beq_ff, siS_eq, siQ_fl, siR_0, siR_2, ixD_l0, ixD_l1, ixD_l2, bitsD_i, rngS1_eq, bd_ok, bd_ex, bs_ok, bs_ex, fz_d, fz_fl, fz_ex, up_ok, up_ex, oo_ok, oo_ex, lk_v, lk_s, lks_nil, lks_cons, ret_some, ret_none, Option.bind_some, Option.map_some, List.length_cons, List.length_nil, if_true, Bool.false_eq_true, if_false, Bool.not_true, Bool.not_false, List.map_cons, List.map_nil, List.cons_append, List.nil_append, List.append_nil, Nat.reduceAdd, Nat.reduceLT, Nat.zero_add, Nat.reduceLeDiff, eq_self, true_and, and_true]
  have hr : rngS1 (eV 3) [some (.fl g), o1, o2, iD (h : Int), iD (m : Int), none, none, none, none, none] = .ok (rangeD 0 h, []) [some (.fl g), o1, o2, iD (h : Int), iD (m : Int), none, none, none, none, none] := by
    rw [rngS1_eq, e3, bd_ok, rgR_ok _ h h61]
  have hi : hide ([8] ++ []) [some (.fl g), o1, o2, iD (h : Int), iD (m : Int), none, none, none, none, none] = [some (.fl g), o1, o2, iD (h : Int), iD (m : Int), none, none, none, none, none] := rfl
  refine ⟨ws, g', ?_, by omega, c, ?_⟩
  · have hb : back ([8] ++ []) [some (.fl g), o1, o2, iD (h : Int), iD (m : Int), none, none, none, none, none] [some (.fl g'), o1, o2, iD (h : Int), iD (m : Int), none, none, none, none, none] = [some (.fl g'), o1, o2, iD (h : Int), iD (m : Int), none, none, none, none, none] := rfl
    rw [cowE_ok hr hL (by rw [hi]; exact e), hb]
  · obtain ⟨a, b, k, e, hb, hk⟩ := hg'
    exact ⟨a, b, k, e, hb, by omega⟩
theorem tb1 {g : List PyData} {n : Nat} (hg : Gn g n) (hn : n ≤ 2 ^ 30) (o5 o6 o7 o8 o9 : Option W) : ∃ (h m : Nat) (g' : List PyData), tgS (tupE (consA (ooc (fzc (op2 binA (ooc (eC (.int 1))) (ooc (fzc (callE 2 f_x_law_random (consA (oV 0) (consA (ooc (eV 1)) nilA)))))))) (consA (ooc (fzc (op2 binA (ooc (eC (.int 2))) (ooc (fzc (callE 2 f_x_law_random (consA (oV 0) (consA (ooc (fzc (op2 binS (oV 2) (ooc (eC (.int 1)))))) nilA)))))))) nilA))) (tupG 2 (consG (nmG 3) (consG (nmG 4) nilG)))
    [some (.fl g), iD 5, iD 6, none, none, o5, o6, o7, o8, o9] = .nx [some (.fl g'), iD 5, iD 6, iD (h : Int), iD (m : Int), o5, o6, o7, o8, o9] ∧ 1 ≤ h ∧ h ≤ 5 ∧ 2 ≤ m ∧ m ≤ 6 ∧ Gn g' (n + 2) := by
  obtain ⟨r, g1, e1, hr, h1⟩ : ∃ (r : Nat) (g' : List PyData), f_x_law_random [some (.fl g), iD 5] = .ok (.d (.int (r : Int))) [some (.fl g'), iD 5] ∧ r < 5 ∧ Gn g' (n + 1) := e_random hg (by omega) 5 (by decide) (by decide)
  obtain ⟨s, g2, e2, hs, h2⟩ : ∃ (r : Nat) (g' : List PyData), f_x_law_random [some (.fl g1), iD (6 - 1)] = .ok (.d (.int (r : Int))) [some (.fl g'), iD (6 - 1)] ∧ r < 5 ∧ Gn g' (n + 1 + 1) := e_random h1 (by omega) 5 (by decide) (by decide)
  refine ⟨1 + r, 2 + s, g2, ?_, by omega, by omega, by omega, by omega, h2⟩
  have et : ∀ x y : PyData, tupG 2 (consG (nmG 3) (consG (nmG 4) nilG)) (.tuple [x, y]) [some (.fl g2), iD 5, iD 6, none, none, o5, o6, o7, o8, o9] = some [some (.fl g2), iD 5, iD 6, some (.d x), some (.d y), o5, o6, o7, o8, o9] := fun x y => rfl
  have c1 : (1 : Int) + (r : Int) = ((1 + r : Nat) : Int) := by omega
  have c2 : (2 : Int) + (s : Int) = ((2 + s : Nat) : Int) := by omega
  unfold tgS
  simp only [gt_0, pt_0, gt_1, gt_2, gt_3, gt_4, gt_5, gt_6, gt_7, gt_8, gt_9, pt_1, pt_2, pt_3, pt_4, pt_5, pt_6, pt_7, pt_8, pt_9, co_d, co_fl, frz_d, frz_fl, sqS_eq, sq_nx, sq_rt, sq_bk, sq_ct, sq_ex, skp_eq, rtS_eq, asS_eq, ifS_eq, exS_eq, raS_eq, fin_rt, fin_nx, fin_ex, eC_eq, oV_eq, oVr_some, eV_eq, eVr_some, eM_eq, eMr_some, op1_eq, op2_eq, opn_eq, nilA_eq, consA_eq, tst_eq, tstB_ok, ifE_eq, ifR_t, ifR_f, andT_eq, orT_eq, andR_t, andR_f, orR_f, orR_t, notT_eq, dsO_nil, dsO_cons, tupE_eq, lstE_eq, tupR_some, lstR_some, callE_eq, callR_ok, callR_ex, ar_v, ar_s, refs_nil, refs_v, refs_s, bk_nil, bk_v, bk_s, bk_e, noP_eq, soP_eq, soB_int, smE_eq, smR_str, slE_eq, binA_i, binS_i, cmpE_i, cmpE_s, cmpE_b, cmpN_i, cmpN_s, cmpN_b, cmpI_i, absD_i, maxD_i, intD_i, intD_b, negD_i, lenD_l, lenD_t, ixD_t0, ixD_t1, fzc_eq, upc_eq, ooc_eq, hide_nil, hide_cons, back_nil, back_cons, bk_v1, bk_v2, nmG_eq, yesT_eq, compE_eq, compK_ok, anyS_eq, anyR_some, srO_v, srO_vs, srO_s, srR_fl, srR_d, srR_str, cmpIn_s, cmpNin_s, cm2_eq, cmR_t, cmR_f, andE_eq, orE_eq, notE_eq, andV_t, andV_f, orV_f, orV_t, notV_b, parS_eq, parR_2, callO_v, callO_vv, callO_vvv, callO_s, callO_sv, callO_svv, slD_l, allD_1, allD_2, isN_eq, forS_eq, forR_nil, enumS_eq, enR_some, isiD_str, lkN_s, lkN_v0, lkN_vi, lkR_0, lkR_i, lkR_fl, lkR_l, lkR_ex, beq_tt, beq_tf, beq_ft, beq_ff, siS_eq, siQ_fl, siR_0, siR_2, ixD_l0, ixD_l1, ixD_l2, bitsD_i, rngS1_eq, bd_ok, bd_ex, bs_ok, bs_ex, fz_d, fz_fl, fz_ex, up_ok, up_ex, oo_ok, oo_ex, lk_v, lk_s, lks_nil, lks_cons, ret_some, ret_none, Option.bind_some, Option.map_some, List.length_cons, List.length_nil, if_true, Bool.false_eq_true, if_false, Bool.not_true, Bool.not_false, List.map_cons, List.map_nil, List.cons_append, List.nil_append, List.append_nil, Nat.reduceAdd, Nat.reduceLT, Nat.zero_add, Nat.reduceLeDiff, eq_self, true_and, and_true, e1, e2, et, c1, c2]
/-- a table as drawn -/
def Tab (ws : List W) : Prop := ∃ m, 2 ≤ m ∧ m ≤ 6 ∧ 1 ≤ ws.length ∧ ws.length ≤ 5 ∧ ∀ w ∈ ws, Row Cel m w
end K85
set_option Elab.async false
set_option maxRecDepth 100000
set_option maxHeartbeats 1000000
namespace K85
open PySem PySem.Spec PyProof.Rows L2 Ev
theorem tab_s : s_x_law_table = sqS (tgS (tupE (consA (ooc (fzc (op2 binA (ooc (eC (.int 1))) (ooc (fzc (callE 2 f_x_law_random (consA (oV 0) (consA (ooc (eV 1)) nilA)))))))) (consA (ooc (fzc (op2 binA (ooc (eC (.int 2))) (ooc (fzc (callE 2 f_x_law_random (consA (oV 0) (consA (ooc (fzc (op2 binS (oV 2) (ooc (eC (.int 1)))))) nilA)))))))) nilA))) (tupG 2 (consG (nmG 3) (consG (nmG 4) nilG))))
      (sqS (asS 5 (cowE [8] (nmG 8) yesT rwE (rngS1 (eV 3))))
      (sqS (ifS (tst (op2 cmpE (ooc (fzc (callE 2 f_x_law_random (consA (oV 0) (consA (ooc (eC (.int 4))) nilA))))) (ooc (eC (.int 0))))) (sqS (parS [6, 7] (consA (ooc (fzc (callE 2 f_x_law_random (consA (oV 0) (consA (ooc (eV 4)) nilA))))) (consA (ooc (fzc (callE 2 f_x_law_random (consA (oV 0) (consA (ooc (eV 4)) nilA))))) nilA))) (sqS (forOwS 8 5 chS) skp)) skp)
      (sqS (rtS (eM 5)) skp))) := rfl
theorem sq_n {a b : SS} {ρ ρ1 : Sl} (h : a ρ = .nx ρ1) : sqS a b ρ = b ρ1 := by
  rw [sqS_eq, h]
  rfl
theorem asS_ok {i : Nat} {e : SE} {ρ ρ1 : Sl} {w : W} (h : e ρ = .ok w ρ1) (hi : i < ρ1.length) : asS i e ρ = .nx (pt ρ1 i (some w)) := by
  rw [asS_eq, h]
  simp only [bs_ok, hi, if_true]
theorem e_law_table {g : List PyData} {n : Nat} (hg : Gn g n) (hn : n ≤ 2 ^ 29) : ∃ ws g', f_x_law_table [some (.fl g), iD 5, iD 6] = .ok (.ow ws) [some (.fl g'), iD 5, iD 6] ∧ Tab ws ∧ Gn g' (n + 10000) := by
  rw [show f_x_law_table [some (.fl g), iD 5, iD 6] = finR 3 [3, 4, 5, 6, 7, 8] (s_x_law_table [some (.fl g), iD 5, iD 6, none, none, none, none, none, none, none]) from bodyR_eq ..]
  rw [tab_s]
  obtain ⟨h, m, g1, e1, h1, h2, m1, m2, hg1⟩ := tb1 hg (by omega) none none none none none
  obtain ⟨ws, g2, e2, l2, c2, hg2⟩ := cow_e (h := h) (m := m) hg1 (by omega) (by omega) (by omega) (iD 5) (iD 6)
  generalize cowE [8] (nmG 8) yesT rwE (rngS1 (eV 3)) = C at e2 ⊢
  have efo := fun (g : List PyData) (a b : Nat) ha hb => ow_go (m := m) (a := a) (b := b) ha hb (some (.fl g)) (iD 5) (iD 6) (iD (h : Int)) (iD (m : Int)) none ws [] c2 (by simp)
  have efp := fun (g : List PyData) (a b : Nat) (r : SR) e => forOw_ok (i := 8) (j := 5) (b := chS) (ρ := [some (.fl g), iD 5, iD 6, iD (h : Int), iD (m : Int), some (.ow ws), iD (a : Int), iD (b : Int), none, none]) (ws := ws) (r := r) (by simp only [gt_5]) (by simp) (by decide) e
  generalize forOwS 8 5 chS = FS at efp ⊢
  have hR := fun (g : List PyData) (n : Nat) (hg : Gn g n) (hn : n < 2 ^ 40) (k : Nat) h1 h2 => e_random hg hn k h1 h2
  generalize f_x_law_random = FR at e1 hR ⊢
  generalize tgS _ _ = TG at e1 ⊢
  obtain ⟨r, g3, e3, hr, hg3⟩ : ∃ (r : Nat) (g' : List PyData), FR [some (.fl g2), iD 4] = .ok (.d (.int (r : Int))) [some (.fl g'), iD 4] ∧ r < 4 ∧ Gn g' (n + 2 + 8192 + 1) := hR g2 _ hg2 (by omega) 4 (by decide) (by decide)
  have up : ∀ {g : List PyData} {a b : Nat}, Gn g a → a ≤ b → Gn g b := fun ⟨x, y, k, e, hb, hk⟩ h => ⟨x, y, k, e, hb, by omega⟩
  have es : asS 5 C [some (.fl g1), iD 5, iD 6, iD (h : Int), iD (m : Int), none, none, none, none, none] = .nx [some (.fl g2), iD 5, iD 6, iD (h : Int), iD (m : Int), some (.ow ws), none, none, none, none] := asS_ok e2 (by simp)
  rw [sq_n e1, sq_n es]
  cases hq : ((r : Int) == 0) with
  | false =>
    refine ⟨ws, g3, ?_, ⟨m, m1, m2, by omega, by omega, fun w hw => row_le (fun _ h => h.cel) (c2 w hw)⟩, up hg3 (by omega)⟩
    simp only [gt_0, pt_0, gt_1, gt_2, gt_3, gt_4, gt_5, gt_6, gt_7, gt_8, gt_9, pt_1, pt_2, pt_3, pt_4, pt_5, pt_6, pt_7, pt_8, pt_9, co_d, co_fl, frz_d, frz_fl, sqS_eq, sq_nx, sq_rt, sq_bk, sq_ct, sq_ex, skp_eq, rtS_eq, asS_eq, ifS_eq, exS_eq, raS_eq, fin_rt, fin_nx, fin_ex, eC_eq, oV_eq, oVr_some, eV_eq, eVr_some, eM_eq, eMr_some, op1_eq, op2_eq, opn_eq, nilA_eq, consA_eq, tst_eq, tstB_ok, ifE_eq, ifR_t, ifR_f, andT_eq, orT_eq, andR_t, andR_f, orR_f, orR_t, notT_eq, dsO_nil, dsO_cons, tupE_eq, lstE_eq, tupR_some, lstR_some, callE_eq, callR_ok, callR_ex, ar_v, ar_s, refs_nil, refs_v, refs_s, bk_nil, bk_v, bk_s, bk_e, noP_eq, soP_eq, soB_int, smE_eq, smR_str, slE_eq, binA_i, binS_i, cmpE_i, cmpE_s, cmpE_b, cmpN_i, cmpN_s, cmpN_b, cmpI_i, absD_i, maxD_i, intD_i, intD_b, negD_i, lenD_l, lenD_t, ixD_t0, ixD_t1, fzc_eq, upc_eq, ooc_eq, hide_nil, hide_cons, back_nil, back_cons, bk_v1, bk_v2, nmG_eq, yesT_eq, compE_eq, compK_ok, anyS_eq, anyR_some, srO_v, srO_vs, srO_s, srR_fl, srR_d, srR_str, cmpIn_s, cmpNin_s, cm2_eq, cmR_t, cmR_f, andE_eq, orE_eq, notE_eq, andV_t, andV_f, orV_f, orV_t, notV_b, parS_eq, parR_2, callO_v, callO_vv, callO_vvv, callO_s, callO_sv, callO_svv, slD_l, allD_1, allD_2, isN_eq, forS_eq, forR_nil, enumS_eq, enR_some, isiD_str, lkN_s, lkN_v0, lkN_vi, lkR_0, lkR_i, lkR_fl, lkR_l, lkR_ex, beq_tt, beq_tf, beq_ft, beq_ff, siS_eq, siQ_fl, siR_0, siR_2, ixD_l0, ixD_l1, ixD_l2, bitsD_i, rngS1_eq, bd_ok, bd_ex, bs_ok, bs_ex, fz_d, fz_fl, fz_ex, up_ok, up_ex, oo_ok, oo_ex, lk_v, lk_s, lks_nil, lks_cons, ret_some, ret_none, Option.bind_some, Option.map_some, List.length_cons, List.length_nil, if_true, Bool.false_eq_true, if_false, Bool.not_true, Bool.not_false, List.map_cons, List.map_nil, List.cons_append, List.nil_append, List.append_nil, Nat.reduceAdd, Nat.reduceLT, Nat.zero_add, Nat.reduceLeDiff, eq_self, true_and, and_true, e3, hq]
    rfl
  | true =>
    obtain ⟨a, g4, e4, ha, hg4⟩ := hR g3 _ hg3 (by omega) m (by omega) (by omega)
    obtain ⟨b, g5, e5, hb, hg5⟩ := hR g4 _ hg4 (by omega) m (by omega) (by omega)
    obtain ⟨ws', e6, l6, c6⟩ := efo g5 a b ha hb
    have ef := efp g5 a b _ e6
    refine ⟨ws', g5, ?_, ⟨m, m1, m2, by rw [l6]; simp; omega, by rw [l6]; simp; omega, c6⟩, up hg5 (by omega)⟩
    simp only [gt_0, pt_0, gt_1, gt_2, gt_3, gt_4, gt_5, gt_6, gt_7, gt_8, gt_9, pt_1, pt_2, pt_3, pt_4, pt_5, pt_6, pt_7, pt_8, pt_9, co_d, co_fl, frz_d, frz_fl, sqS_eq, sq_nx, sq_rt, sq_bk, sq_ct, sq_ex, skp_eq, rtS_eq, asS_eq, ifS_eq, exS_eq, raS_eq, fin_rt, fin_nx, fin_ex, eC_eq, oV_eq, oVr_some, eV_eq, eVr_some, eM_eq, eMr_some, op1_eq, op2_eq, opn_eq, nilA_eq, consA_eq, tst_eq, tstB_ok, ifE_eq, ifR_t, ifR_f, andT_eq, orT_eq, andR_t, andR_f, orR_f, orR_t, notT_eq, dsO_nil, dsO_cons, tupE_eq, lstE_eq, tupR_some, lstR_some, callE_eq, callR_ok, callR_ex, ar_v, ar_s, refs_nil, refs_v, refs_s, bk_nil, bk_v, bk_s, bk_e, noP_eq, soP_eq, soB_int, smE_eq, smR_str, slE_eq, binA_i, binS_i, cmpE_i, cmpE_s, cmpE_b, cmpN_i, cmpN_s, cmpN_b, cmpI_i, absD_i, maxD_i, intD_i, intD_b, negD_i, lenD_l, lenD_t, ixD_t0, ixD_t1, fzc_eq, upc_eq, ooc_eq, hide_nil, hide_cons, back_nil, back_cons, bk_v1, bk_v2, nmG_eq, yesT_eq, compE_eq, compK_ok, anyS_eq, anyR_some, srO_v, srO_vs, srO_s, srR_fl, srR_d, srR_str, cmpIn_s, cmpNin_s, cm2_eq, cmR_t, cmR_f, andE_eq, orE_eq, notE_eq, andV_t, andV_f, orV_f, orV_t, notV_b, parS_eq, parR_2, callO_v, callO_vv, callO_vvv, callO_s, callO_sv, callO_svv, slD_l, allD_1, allD_2, isN_eq, forS_eq, forR_nil, enumS_eq, enR_some, isiD_str, lkN_s, lkN_v0, lkN_vi, lkR_0, lkR_i, lkR_fl, lkR_l, lkR_ex, beq_tt, beq_tf, beq_ft, beq_ff, siS_eq, siQ_fl, siR_0, siR_2, ixD_l0, ixD_l1, ixD_l2, bitsD_i, rngS1_eq, bd_ok, bd_ex, bs_ok, bs_ex, fz_d, fz_fl, fz_ex, up_ok, up_ex, oo_ok, oo_ex, lk_v, lk_s, lks_nil, lks_cons, ret_some, ret_none, Option.bind_some, Option.map_some, List.length_cons, List.length_nil, if_true, Bool.false_eq_true, if_false, Bool.not_true, Bool.not_false, List.map_cons, List.map_nil, List.cons_append, List.nil_append, List.append_nil, Nat.reduceAdd, Nat.reduceLT, Nat.zero_add, Nat.reduceLeDiff, eq_self, true_and, and_true, e3, e4, e5, ef, hq]
    rfl
end K85
set_option Elab.async false
set_option maxRecDepth 100000
set_option maxHeartbeats 1000000
namespace K85
open PySem PySem.Spec PyProof.Rows L2 Ev
theorem ok_of (s : String) : PyData.strOk (Str.ofString s) = true := by
  rw [Str.ofString_eq_toList]
  unfold PyData.strOk
  rw [← Array.all_toList, List.all_eq_true]
  intro c hc
  have hc : c ∈ s.toList.map Char.toNat := hc
  obtain ⟨ch, -, rfl⟩ := List.mem_map.1 hc
  have hv := ch.valid
  have : ch.toNat < 0x110000 := by
    rcases hv with h | h
    · have h : ch.toNat < 0xd800 := h
      omega
    · exact h.2
  simpa using this
theorem wds_ok (a b : Int) : PyData.strOk (wds a b) = true := by
  unfold wds
  split
  · exact ok_of _
  · exact ok_app (ok_app (ok_of _) (ok_of _)) (ok_of _)
theorem join_eq (y : Str) (l : List Str) : Txt.join y l = Str.join y l := by
  unfold Txt.join
  rw [StrLaws.glued_eq_join]
theorem join_len (y : Str) {k : Nat} : ∀ {l : List Str}, (∀ z ∈ l, z.length ≤ k) → (Str.join y l).length ≤ l.length * (k + y.length)
  | [], _ => Nat.zero_le _
  | [a], h => by
    have := h a List.mem_cons_self
    show a.length ≤ 1 * (k + y.length)
    omega
  | a :: b :: l, h => by
    have h1 := h a List.mem_cons_self
    have h2 := join_len y (l := b :: l) fun z hz => h z (List.mem_cons_of_mem _ hz)
    show (a ++ y ++ Str.join y (b :: l)).length ≤ _
    rw [Str.length_append, Str.length_append, List.length_cons, Nat.succ_mul]
    omega
theorem join_ok {y : Str} (hy : PyData.strOk y = true) : ∀ {l : List Str}, (∀ z ∈ l, PyData.strOk z = true) → PyData.strOk (Str.join y l) = true
  | [], _ => by simp [Str.join, Str.empty, PyData.strOk]
  | [a], h => h a List.mem_cons_self
  | a :: b :: l, h => ok_app (ok_app (h a List.mem_cons_self) hy) (join_ok hy fun z hz => h z (List.mem_cons_of_mem _ hz))
theorem strsD_map : ∀ l : List Str, strsD (l.map .str) = some l
  | [] => rfl
  | a :: l => by
    show (strsD (l.map .str)).map (a :: ·) = _
    rw [strsD_map l]
    rfl
theorem joinD_ok {y : Str} {l : List Str} {k : Nat} (h : ∀ z ∈ l, z.length ≤ k) (hk : l.length * (k + y.length) ≤ 16777216) : joinD y (.list (l.map .str)) = some (.d (.str (Str.join y l))) := by
  have hs : (l.map (·.length)).sum ≤ l.length * k := by
    clear hk
    induction l with
    | nil => exact Nat.zero_le _
    | cons a l ih =>
      have h1 := h a List.mem_cons_self
      have h2 := ih fun z hz => h z (List.mem_cons_of_mem _ hz)
      rw [List.map_cons, List.sum_cons, List.length_cons, Nat.succ_mul]
      omega
  show ((strsD (l.map .str)).bind fun ys => if (ys.map (·.length)).sum + ys.length * y.length ≤ 16777216 then imm (.str (Txt.join y ys)) else none) = _
  rw [strsD_map]
  show (if (l.map (·.length)).sum + l.length * y.length ≤ 16777216 then imm (.str (Txt.join y l)) else none) = _
  rw [Nat.mul_add] at hk
  rw [if_pos (by omega), join_eq]
  rfl
def wdC : PyData → Str
  | .tuple [.int a, .int b] => wds a b
  | _ => ""
theorem e_wdC {x : PyData} (h : Cel x) : (∃ ρ, f_x_law_word [some (.d x)] = .ok (.d (.str (wdC x))) ρ) ∧ (wdC x).length ≤ 23 ∧ PyData.strOk (wdC x) = true := by
  obtain ⟨a, b, rfl, h1, h2, h3⟩ := h
  exact ⟨e_law_word a b (by omega) (by omega), wds_len (by omega) (by omega), wds_ok a b⟩
/-- a row's text -/
def rwT (xs : List PyData) : Str := Str.join " " (xs.map wdC)
theorem rwT_p {xs : List PyData} (h : ∀ x ∈ xs, Cel x) : (rwT xs).length ≤ xs.length * 24 ∧ PyData.strOk (rwT xs) = true := by
  have h1 : ∀ z ∈ xs.map wdC, z.length ≤ 23 ∧ PyData.strOk z = true := fun z hz => by
    obtain ⟨x, hx, rfl⟩ := List.mem_map.1 hz
    exact (e_wdC (h x hx)).2
  have h2 := join_len " " (k := 23) fun z hz => (h1 z hz).1
  have h3 : (" " : Str).length = 1 := rfl
  rw [h3, List.length_map] at h2
  exact ⟨h2, join_ok (ok_of _) fun z hz => (h1 z hz).2⟩
theorem e_law_words {xs : List PyData} (h : ∀ x ∈ xs, Cel x) (hl : xs.length ≤ 64) : ∃ ρ, f_x_law_words [some (.d (.list xs))] = .ok (.d (.str (rwT xs))) ρ := by
  rw [show f_x_law_words [some (.d (.list xs))] = finR 1 [] (s_x_law_words [some (.d (.list xs)), none]) from bodyR_eq ..]
  unfold s_x_law_words
  have hg : compGo ([1] ++ []) (nmG 1) yesT (fzc (callE 1 f_x_law_word (consA (ooc (eV 1)) nilA))) xs (hide ([1] ++ []) [some (.d (.list xs)), none]) = some (xs.map fun x => .str (wdC x), [some (.d (.list xs)), none]) := by
    refine compGo_map [some (.d (.list xs)), none] (fun x => .str (wdC x)) fun x hx => ?_
    obtain ⟨ρ, e⟩ := (e_wdC (h x hx)).1
    exact ⟨[some (.d (.list xs)), some (.d x)], _, [some (.d (.list xs)), some (.d x)], rfl, rfl, by simp only [gt_0, pt_0, gt_1, gt_2, gt_3, gt_4, gt_5, gt_6, gt_7, gt_8, gt_9, pt_1, pt_2, pt_3, pt_4, pt_5, pt_6, pt_7, pt_8, pt_9, co_d, co_fl, frz_d, frz_fl, sqS_eq, sq_nx, sq_rt, sq_bk, sq_ct, sq_ex, skp_eq, rtS_eq, asS_eq, ifS_eq, exS_eq, raS_eq, fin_rt, fin_nx, fin_ex, eC_eq, oV_eq, oVr_some, eV_eq, eVr_some, eM_eq, eMr_some, op1_eq, op2_eq, opn_eq, nilA_eq, consA_eq, tst_eq, tstB_ok, ifE_eq, ifR_t, ifR_f, andT_eq, orT_eq, andR_t, andR_f, orR_f, orR_t, notT_eq, dsO_nil, dsO_cons, tupE_eq, lstE_eq, tupR_some, lstR_some, callE_eq, callR_ok, callR_ex, ar_v, ar_s, refs_nil, refs_v, refs_s, bk_nil, bk_v, bk_s, bk_e, noP_eq, soP_eq, soB_int, smE_eq, smR_str, slE_eq, binA_i, binS_i, cmpE_i, cmpE_s, cmpE_b, cmpN_i, cmpN_s, cmpN_b, cmpI_i, absD_i, maxD_i, intD_i, intD_b, negD_i, lenD_l, lenD_t, ixD_t0, ixD_t1, fzc_eq, upc_eq, ooc_eq, hide_nil, hide_cons, back_nil, back_cons, bk_v1, bk_v2, nmG_eq, yesT_eq, compE_eq, compK_ok, anyS_eq, anyR_some, srO_v, srO_vs, srO_s, srR_fl, srR_d, srR_str, cmpIn_s, cmpNin_s, cm2_eq, cmR_t, cmR_f, andE_eq, orE_eq, notE_eq, andV_t, andV_f, orV_f, orV_t, notV_b, parS_eq, parR_2, callO_v, callO_vv, callO_vvv, callO_s, callO_sv, callO_svv, slD_l, allD_1, allD_2, isN_eq, forS_eq, forR_nil, enumS_eq, enR_some, isiD_str, lkN_s, lkN_v0, lkN_vi, lkR_0, lkR_i, lkR_fl, lkR_l, lkR_ex, beq_tt, beq_tf, beq_ft, beq_ff, siS_eq, siQ_fl, siR_0, siR_2, ixD_l0, ixD_l1, ixD_l2, bitsD_i, rngS1_eq, bd_ok, bd_ex, bs_ok, bs_ex, fz_d, fz_fl, fz_ex, up_ok, up_ex, oo_ok, oo_ex, lk_v, lk_s, lks_nil, lks_cons, ret_some, ret_none, Option.bind_some, Option.map_some, List.length_cons, List.length_nil, if_true, Bool.false_eq_true, if_false, Bool.not_true, Bool.not_false, List.map_cons, List.map_nil, List.cons_append, List.nil_append, List.append_nil, Nat.reduceAdd, Nat.reduceLT, Nat.zero_add, Nat.reduceLeDiff, eq_self, true_and, and_true, e], rfl⟩
  have hL : xs.length ≤ 16777216 := by omega
  have h1 : ∀ z ∈ xs.map wdC, z.length ≤ 23 := fun z hz => by
    obtain ⟨x, hx, rfl⟩ := List.mem_map.1 hz
    exact (e_wdC (h x hx)).2.1
  have hj := joinD_ok (y := " ") h1 (by rw [List.length_map, show (" " : Str).length = 1 from rfl]; omega)
  rw [List.map_map] at hj
  have hj' : joinD " " (.list (xs.map fun x => .str (wdC x))) = some (.d (.str (rwT xs))) := hj
  simp only [gt_0, pt_0, gt_1, gt_2, gt_3, gt_4, gt_5, gt_6, gt_7, gt_8, gt_9, pt_1, pt_2, pt_3, pt_4, pt_5, pt_6, pt_7, pt_8, pt_9, co_d, co_fl, frz_d, frz_fl, sqS_eq, sq_nx, sq_rt, sq_bk, sq_ct, sq_ex, skp_eq, rtS_eq, asS_eq, ifS_eq, exS_eq, raS_eq, fin_rt, fin_nx, fin_ex, eC_eq, oV_eq, oVr_some, eV_eq, eVr_some, eM_eq, eMr_some, op1_eq, op2_eq, opn_eq, nilA_eq, consA_eq, tst_eq, tstB_ok, ifE_eq, ifR_t, ifR_f, andT_eq, orT_eq, andR_t, andR_f, orR_f, orR_t, notT_eq, dsO_nil, dsO_cons, tupE_eq, lstE_eq, tupR_some, lstR_some, callE_eq, callR_ok, callR_ex, ar_v, ar_s, refs_nil, refs_v, refs_s, bk_nil, bk_v, bk_s, bk_e, noP_eq, soP_eq, soB_int, smE_eq, smR_str, slE_eq, binA_i, binS_i, cmpE_i, cmpE_s, cmpE_b, cmpN_i, cmpN_s, cmpN_b, cmpI_i, absD_i, maxD_i, intD_i, intD_b, negD_i, lenD_l, lenD_t, ixD_t0, ixD_t1, fzc_eq, upc_eq, ooc_eq, hide_nil, hide_cons, back_nil, back_cons, bk_v1, bk_v2, nmG_eq, yesT_eq, compE_eq, compK_ok, anyS_eq, anyR_some, srO_v, srO_vs, srO_s, srR_fl, srR_d, srR_str, cmpIn_s, cmpNin_s, cm2_eq, cmR_t, cmR_f, andE_eq, orE_eq, notE_eq, andV_t, andV_f, orV_f, orV_t, notV_b, parS_eq, parR_2, callO_v, callO_vv, callO_vvv, callO_s, callO_sv, callO_svv, slD_l, allD_1, allD_2, isN_eq, forS_eq, forR_nil, enumS_eq, enR_some, isiD_str, lkN_s, lkN_v0, lkN_vi, lkR_0, lkR_i, lkR_fl, lkR_l, lkR_ex, beq_tt, beq_tf, beq_ft, beq_ff, siS_eq, siQ_fl, siR_0, siR_2, ixD_l0, ixD_l1, ixD_l2, bitsD_i, rngS1_eq, bd_ok, bd_ex, bs_ok, bs_ex, fz_d, fz_fl, fz_ex, up_ok, up_ex, oo_ok, oo_ex, lk_v, lk_s, lks_nil, lks_cons, ret_some, ret_none, Option.bind_some, Option.map_some, List.length_cons, List.length_nil, if_true, Bool.false_eq_true, if_false, Bool.not_true, Bool.not_false, List.map_cons, List.map_nil, List.cons_append, List.nil_append, List.append_nil, Nat.reduceAdd, Nat.reduceLT, Nat.zero_add, Nat.reduceLeDiff, eq_self, true_and, and_true, compR_ok hL hg, hj']
  exact ⟨_, rfl⟩
/-- a table's text -/
def tbT (T : List (List PyData)) : Str := Str.join "" (T.map fun xs => rwT xs ++ "\n")
def TabD (T : List (List PyData)) : Prop := ∃ m, 2 ≤ m ∧ m ≤ 6 ∧ 1 ≤ T.length ∧ T.length ≤ 5 ∧ ∀ xs ∈ T, xs.length = m ∧ ∀ x ∈ xs, Cel x
theorem ln_p {T : List (List PyData)} (h : TabD T) : ∀ z ∈ T.map (fun xs => rwT xs ++ "\n"), z.length ≤ 145 ∧ PyData.strOk z = true := by
  obtain ⟨m, m1, m2, l1, l2, c⟩ := h
  intro z hz
  obtain ⟨xs, hx, rfl⟩ := List.mem_map.1 hz
  obtain ⟨c1, c2⟩ := c xs hx
  obtain ⟨r1, r2⟩ := rwT_p c2
  refine ⟨?_, ok_app r2 (ok_of _)⟩
  rw [Str.length_append, show ("\n" : Str).length = 1 from rfl]
  omega
theorem tbT_p {T : List (List PyData)} (h : TabD T) : (tbT T).length ≤ 725 ∧ PyData.strOk (tbT T) = true := by
  have h1 := ln_p h
  obtain ⟨m, m1, m2, l1, l2, c⟩ := h
  have h2 := join_len "" (k := 145) fun z hz => (h1 z hz).1
  rw [List.length_map, show ("" : Str).length = 0 from rfl] at h2
  refine ⟨?_, join_ok (ok_of _) fun z hz => (h1 z hz).2⟩
  unfold tbT
  omega
theorem tbT_nl {T : List (List PyData)} (h : TabD T) : 10 ∈ (tbT T).cps.toList ∧ 1 ≤ (tbT T).length := by
  obtain ⟨m, m1, m2, l1, l2, c⟩ := h
  obtain ⟨xs, hx⟩ : ∃ xs, xs ∈ T := by
    cases T with
    | nil => simp at l1
    | cons a r => exact ⟨a, List.mem_cons_self⟩
  have h10 : 10 ∈ (rwT xs ++ "\n" : Str).cps.toList := by
    show 10 ∈ ((rwT xs).cps ++ ("\n" : Str).cps).toList
    rw [Array.toList_append]
    exact List.mem_append_right _ (by rw [show ("\n" : Str).cps = #[10] from rfl]; simp)
  have hm := mem_join (y := "") (List.mem_map_of_mem (f := fun xs => rwT xs ++ ("\n" : Str)) hx) h10
  refine ⟨hm, ?_⟩
  have := List.length_pos_of_mem hm
  show 1 ≤ (tbT T).cps.size
  rw [← Array.length_toList]
  exact this
theorem e_law_text {T : List (List PyData)} (h : TabD T) : ∃ ρ, f_x_law_text [some (.d (.list (T.map .list)))] = .ok (.d (.str (tbT T))) ρ := by
  rw [show f_x_law_text [some (.d (.list (T.map .list)))] = finR 1 [] (s_x_law_text [some (.d (.list (T.map .list))), none]) from bodyR_eq ..]
  unfold s_x_law_text
  have h1 := ln_p h
  obtain ⟨m, m1, m2, l1, l2, c⟩ := h
  have hg : compGo ([1] ++ []) (nmG 1) yesT (fzc (op2 binA (ooc (fzc (callE 1 f_x_law_words (consA (ooc (eV 1)) nilA)))) (ooc (eC (.str "\n"))))) (T.map .list) (hide ([1] ++ []) [some (.d (.list (T.map .list))), none]) = some ((T.map PyData.list).map (fun x => match x with | .list xs => .str (rwT xs ++ "\n") | _ => .none), [some (.d (.list (T.map .list))), none]) := by
    refine compGo_map [some (.d (.list (T.map .list))), none] _ fun x hx => ?_
    obtain ⟨xs, hy, rfl⟩ := List.mem_map.1 hx
    obtain ⟨c1, c2⟩ := c xs hy
    obtain ⟨ρ, e⟩ := e_law_words c2 (by omega)
    obtain ⟨r1, r2⟩ := rwT_p c2
    have ha : binA (.str (rwT xs)) (.str "\n") = some (.d (.str (rwT xs ++ "\n"))) := if_pos (by rw [show ("\n" : Str).length = 1 from rfl]; omega)
    exact ⟨[some (.d (.list (T.map .list))), some (.d (.list xs))], _, [some (.d (.list (T.map .list))), some (.d (.list xs))], rfl, rfl, by simp only [gt_0, pt_0, gt_1, gt_2, gt_3, gt_4, gt_5, gt_6, gt_7, gt_8, gt_9, pt_1, pt_2, pt_3, pt_4, pt_5, pt_6, pt_7, pt_8, pt_9, co_d, co_fl, frz_d, frz_fl, sqS_eq, sq_nx, sq_rt, sq_bk, sq_ct, sq_ex, skp_eq, rtS_eq, asS_eq, ifS_eq, exS_eq, raS_eq, fin_rt, fin_nx, fin_ex, eC_eq, oV_eq, oVr_some, eV_eq, eVr_some, eM_eq, eMr_some, op1_eq, op2_eq, opn_eq, nilA_eq, consA_eq, tst_eq, tstB_ok, ifE_eq, ifR_t, ifR_f, andT_eq, orT_eq, andR_t, andR_f, orR_f, orR_t, notT_eq, dsO_nil, dsO_cons, tupE_eq, lstE_eq, tupR_some, lstR_some, callE_eq, callR_ok, callR_ex, ar_v, ar_s, refs_nil, refs_v, refs_s, bk_nil, bk_v, bk_s, bk_e, noP_eq, soP_eq, soB_int, smE_eq, smR_str, slE_eq, binA_i, binS_i, cmpE_i, cmpE_s, cmpE_b, cmpN_i, cmpN_s, cmpN_b, cmpI_i, absD_i, maxD_i, intD_i, intD_b, negD_i, lenD_l, lenD_t, ixD_t0, ixD_t1, fzc_eq, upc_eq, ooc_eq, hide_nil, hide_cons, back_nil, back_cons, bk_v1, bk_v2, nmG_eq, yesT_eq, compE_eq, compK_ok, anyS_eq, anyR_some, srO_v, srO_vs, srO_s, srR_fl, srR_d, srR_str, cmpIn_s, cmpNin_s, cm2_eq, cmR_t, cmR_f, andE_eq, orE_eq, notE_eq, andV_t, andV_f, orV_f, orV_t, notV_b, parS_eq, parR_2, callO_v, callO_vv, callO_vvv, callO_s, callO_sv, callO_svv, slD_l, allD_1, allD_2, isN_eq, forS_eq, forR_nil, enumS_eq, enR_some, isiD_str, lkN_s, lkN_v0, lkN_vi, lkR_0, lkR_i, lkR_fl, lkR_l, lkR_ex, beq_tt, beq_tf, beq_ft, beq_ff, siS_eq, siQ_fl, siR_0, siR_2, ixD_l0, ixD_l1, ixD_l2, bitsD_i, rngS1_eq, bd_ok, bd_ex, bs_ok, bs_ex, fz_d, fz_fl, fz_ex, up_ok, up_ex, oo_ok, oo_ex, lk_v, lk_s, lks_nil, lks_cons, ret_some, ret_none, Option.bind_some, Option.map_some, List.length_cons, List.length_nil, if_true, Bool.false_eq_true, if_false, Bool.not_true, Bool.not_false, List.map_cons, List.map_nil, List.cons_append, List.nil_append, List.append_nil, Nat.reduceAdd, Nat.reduceLT, Nat.zero_add, Nat.reduceLeDiff, eq_self, true_and, and_true, e, ha], rfl⟩
  have hL : (T.map PyData.list).length ≤ 16777216 := by rw [List.length_map]; omega
  have hj := joinD_ok (y := "") (fun z hz => (h1 z hz).1) (by rw [List.length_map, show ("" : Str).length = 0 from rfl]; omega)
  have hj' : joinD "" (.list ((T.map PyData.list).map (fun x => match x with | .list xs => .str (rwT xs ++ "\n") | _ => .none))) = some (.d (.str (tbT T))) := by
    rw [List.map_map]
    rw [List.map_map] at hj
    exact hj
  simp only [gt_0, pt_0, gt_1, gt_2, gt_3, gt_4, gt_5, gt_6, gt_7, gt_8, gt_9, pt_1, pt_2, pt_3, pt_4, pt_5, pt_6, pt_7, pt_8, pt_9, co_d, co_fl, frz_d, frz_fl, sqS_eq, sq_nx, sq_rt, sq_bk, sq_ct, sq_ex, skp_eq, rtS_eq, asS_eq, ifS_eq, exS_eq, raS_eq, fin_rt, fin_nx, fin_ex, eC_eq, oV_eq, oVr_some, eV_eq, eVr_some, eM_eq, eMr_some, op1_eq, op2_eq, opn_eq, nilA_eq, consA_eq, tst_eq, tstB_ok, ifE_eq, ifR_t, ifR_f, andT_eq, orT_eq, andR_t, andR_f, orR_f, orR_t, notT_eq, dsO_nil, dsO_cons, tupE_eq, lstE_eq, tupR_some, lstR_some, callE_eq, callR_ok, callR_ex, ar_v, ar_s, refs_nil, refs_v, refs_s, bk_nil, bk_v, bk_s, bk_e, noP_eq, soP_eq, soB_int, smE_eq, smR_str, slE_eq, binA_i, binS_i, cmpE_i, cmpE_s, cmpE_b, cmpN_i, cmpN_s, cmpN_b, cmpI_i, absD_i, maxD_i, intD_i, intD_b, negD_i, lenD_l, lenD_t, ixD_t0, ixD_t1, fzc_eq, upc_eq, ooc_eq, hide_nil, hide_cons, back_nil, back_cons, bk_v1, bk_v2, nmG_eq, yesT_eq, compE_eq, compK_ok, anyS_eq, anyR_some, srO_v, srO_vs, srO_s, srR_fl, srR_d, srR_str, cmpIn_s, cmpNin_s, cm2_eq, cmR_t, cmR_f, andE_eq, orE_eq, notE_eq, andV_t, andV_f, orV_f, orV_t, notV_b, parS_eq, parR_2, callO_v, callO_vv, callO_vvv, callO_s, callO_sv, callO_svv, slD_l, allD_1, allD_2, isN_eq, forS_eq, forR_nil, enumS_eq, enR_some, isiD_str, lkN_s, lkN_v0, lkN_vi, lkR_0, lkR_i, lkR_fl, lkR_l, lkR_ex, beq_tt, beq_tf, beq_ft, beq_ff, siS_eq, siQ_fl, siR_0, siR_2, ixD_l0, ixD_l1, ixD_l2, bitsD_i, rngS1_eq, bd_ok, bd_ex, bs_ok, bs_ex, fz_d, fz_fl, fz_ex, up_ok, up_ex, oo_ok, oo_ex, lk_v, lk_s, lks_nil, lks_cons, ret_some, ret_none, Option.bind_some, Option.map_some, List.length_cons, List.length_nil, if_true, Bool.false_eq_true, if_false, Bool.not_true, Bool.not_false, List.map_cons, List.map_nil, List.cons_append, List.nil_append, List.append_nil, Nat.reduceAdd, Nat.reduceLT, Nat.zero_add, Nat.reduceLeDiff, eq_self, true_and, and_true, compR_ok hL hg, hj']
  exact ⟨_, rfl⟩
end K85
set_option Elab.async false
set_option maxRecDepth 100000
set_option maxHeartbeats 1000000
namespace K85
open PySem PySem.Spec PyProof.Rows L2 Ev
theorem frz_tab {ws : List W} (h : Tab ws) : ∃ T, frz (.ow ws) = some (.list (T.map .list)) ∧ TabD T := by
  obtain ⟨m, m1, m2, l1, l2, c⟩ := h
  have : ∃ T : List (List PyData), frz.frzs ws = some (T.map .list) ∧ T.length = ws.length ∧ ∀ xs ∈ T, xs.length = m ∧ ∀ x ∈ xs, Cel x := by
    clear l1 l2
    induction ws with
    | nil => exact ⟨[], rfl, rfl, by simp⟩
    | cons w ws ih =>
      obtain ⟨T, e, l, d⟩ := ih fun w hw => c w (List.mem_cons_of_mem _ hw)
      obtain ⟨xs, rfl, hl, hx⟩ := c w List.mem_cons_self
      refine ⟨xs :: T, ?_, by simp [l], ?_⟩
      · show ((frz (.fl xs)).bind fun x => (frz.frzs ws).bind fun xs => some (x :: xs)) = _
        rw [e]
        rfl
      · intro ys hy
        rcases List.mem_cons.1 hy with rfl | hy
        · exact ⟨hl, hx⟩
        · exact d ys hy
  obtain ⟨T, e, l, d⟩ := this
  refine ⟨T, ?_, m, m1, m2, by omega, by omega, d⟩
  show (frz.frzs ws).map PyData.list = _
  rw [e]
  rfl
theorem cnt_pos (c : Nat) : ∀ l : List Nat, 0 ≤ PyProof.Rows.cnt c l ∧ (c ∈ l → 1 ≤ PyProof.Rows.cnt c l)
  | [] => ⟨by rw [PyProof.Rows.cnt_nil]; decide, fun h => nomatch h⟩
  | n :: r => by
    obtain ⟨h1, h2⟩ := cnt_pos c r
    rw [PyProof.Rows.cnt_cons]
    constructor
    · split <;> omega
    · intro h
      split
      · omega
      · rename_i hn
        rcases List.mem_cons.1 h with e | e
        · exact absurd e.symm hn
        · have := h2 e
          omega
/-- the lines that are ended -/
def lnE (z : Str) : List Str := (lns z).dropLast
theorem lnE_p {T : List (List PyData)} (h : TabD T) : 1 ≤ (lnE (tbT T)).length ∧ (lnE (tbT T)).length ≤ 725 ∧ ∀ z ∈ lnE (tbT T), z.length ≤ 725 ∧ PyData.strOk z = true := by
  obtain ⟨t1, t2⟩ := tbT_p h
  obtain ⟨n1, n2⟩ := tbT_nl h
  have hc := PyProof.Rows.split_len (tbT T) 10
  have hp : 1 ≤ PyProof.Rows.cnt 10 (tbT T).cps.toList := by
    exact (cnt_pos 10 _).2 n1
  have hk := cnt_split (z := tbT T) (y := "\n") (by decide)
  have hs : (⟨#[10]⟩ : Str) = "\n" := rfl
  rw [hs] at hc
  refine ⟨?_, ?_, fun z hz => ?_⟩
  · unfold lnE lns
    rw [List.length_dropLast]
    omega
  · unfold lnE lns
    rw [List.length_dropLast]
    omega
  · have hz := List.dropLast_subset _ hz
    exact ⟨Nat.le_trans (len_split (by decide) hz) t1, ok_split t2 hz⟩
/-- a text that the law may ask for -/
def Okt (z : Str) : Prop := z.length ≤ 1000000 ∧ PyData.strOk z = true
theorem tx1 {T : List (List PyData)} (h : TabD T) (o0 o4 o5 o6 o7 o8 o9 oa ob oc : Option W) : parS [2, 3] (consA (ooc (fzc (callE 1 f_x_law_text (consA (ooc (eV 1)) nilA)))) (consA (ooc (fzc (slE (ooc (fzc (smE splitD (ooc (fzc (callE 1 f_x_law_text (consA (ooc (eV 1)) nilA)))) (ooc (eC (.str "\n")))))) noP (soP (fzc (op1 negD (ooc (eC (.int 1))))))))) nilA))
    [o0, some (.d (.list (T.map .list))), none, none, o4, o5, o6, o7, o8, o9, oa, ob, oc] = .nx [o0, some (.d (.list (T.map .list))), some (.d (.str (tbT T))), some (.d (.list ((lnE (tbT T)).map .str))), o4, o5, o6, o7, o8, o9, oa, ob, oc] := by
  obtain ⟨ρ, e⟩ := e_law_text h
  obtain ⟨t1, t2⟩ := tbT_p h
  have hs := splitD_s (z := tbT T) (y := "\n") rfl (by omega)
  have hc : Ev.cutD ((Txt.split (tbT T) "\n").map PyData.str) none (some (-1)) = (lnE (tbT T)).map .str := by
    rw [cut_init, ← List.map_dropLast]
    rfl
  simp only [gt_0, pt_0, gt_1, gt_2, gt_3, gt_4, gt_5, gt_6, gt_7, gt_8, gt_9, pt_1, pt_2, pt_3, pt_4, pt_5, pt_6, pt_7, pt_8, pt_9, co_d, co_fl, frz_d, frz_fl, sqS_eq, sq_nx, sq_rt, sq_bk, sq_ct, sq_ex, skp_eq, rtS_eq, asS_eq, ifS_eq, exS_eq, raS_eq, fin_rt, fin_nx, fin_ex, eC_eq, oV_eq, oVr_some, eV_eq, eVr_some, eM_eq, eMr_some, op1_eq, op2_eq, opn_eq, nilA_eq, consA_eq, tst_eq, tstB_ok, ifE_eq, ifR_t, ifR_f, andT_eq, orT_eq, andR_t, andR_f, orR_f, orR_t, notT_eq, dsO_nil, dsO_cons, tupE_eq, lstE_eq, tupR_some, lstR_some, callE_eq, callR_ok, callR_ex, ar_v, ar_s, refs_nil, refs_v, refs_s, bk_nil, bk_v, bk_s, bk_e, noP_eq, soP_eq, soB_int, smE_eq, smR_str, slE_eq, binA_i, binS_i, cmpE_i, cmpE_s, cmpE_b, cmpN_i, cmpN_s, cmpN_b, cmpI_i, absD_i, maxD_i, intD_i, intD_b, negD_i, lenD_l, lenD_t, ixD_t0, ixD_t1, fzc_eq, upc_eq, ooc_eq, hide_nil, hide_cons, back_nil, back_cons, bk_v1, bk_v2, nmG_eq, yesT_eq, compE_eq, compK_ok, anyS_eq, anyR_some, srO_v, srO_vs, srO_s, srR_fl, srR_d, srR_str, cmpIn_s, cmpNin_s, cm2_eq, cmR_t, cmR_f, andE_eq, orE_eq, notE_eq, andV_t, andV_f, orV_f, orV_t, notV_b, parS_eq, parR_2, callO_v, callO_vv, callO_vvv, callO_s, callO_sv, callO_svv, slD_l, allD_1, allD_2, isN_eq, forS_eq, forR_nil, enumS_eq, enR_some, isiD_str, lkN_s, lkN_v0, lkN_vi, lkR_0, lkR_i, lkR_fl, lkR_l, lkR_ex, beq_tt, beq_tf, beq_ft, beq_ff, siS_eq, siQ_fl, siR_0, siR_2, ixD_l0, ixD_l1, ixD_l2, bitsD_i, rngS1_eq, bd_ok, bd_ex, bs_ok, bs_ex, fz_d, fz_fl, fz_ex, up_ok, up_ex, oo_ok, oo_ex, lk_v, lk_s, lks_nil, lks_cons, ret_some, ret_none, Option.bind_some, Option.map_some, List.length_cons, List.length_nil, if_true, Bool.false_eq_true, if_false, Bool.not_true, Bool.not_false, List.map_cons, List.map_nil, List.cons_append, List.nil_append, List.append_nil, Nat.reduceAdd, Nat.reduceLT, Nat.zero_add, Nat.reduceLeDiff, eq_self, true_and, and_true, e, hs, hc]
theorem parR_3 (i j k : Nat) (ρ : Sl) (x y z : PyData) (hi : i < ρ.length) (hj : j < ρ.length) (hk : k < ρ.length) : parR [i, j, k] ρ (some [x, y, z]) = .nx (pt (pt (pt ρ i (some (.d x))) j (some (.d y))) k (some (.d z))) := by
  have h2 : j < (pt ρ i (some (.d x))).length := by rw [pt_len']; exact hj
  have h3 : k < (pt (pt ρ i (some (.d x))) j (some (.d y))).length := by rw [pt_len', pt_len']; exact hk
  simp only [parR, asTs, if_pos hi, if_pos h2, if_pos h3]
theorem tx2 {g : List PyData} {n : Nat} (hg : Gn g n) (hn : n ≤ 2 ^ 30) {L : List PyData} {t : Str} (l1 : 1 ≤ L.length) (l2 : L.length ≤ 725) (ht : t.length ≤ 725) (o1 o7 o8 o9 oa ob oc : Option W) : ∃ (a b c : Nat) (g' : List PyData), parS [4, 5, 6] (consA (ooc (fzc (callE 2 f_x_law_random (consA (oV 0) (consA (ooc (fzc (opn lenD (consA (oV 3) nilA)))) nilA))))) (consA (ooc (fzc (callE 2 f_x_law_random (consA (oV 0) (consA (ooc (fzc (opn lenD (consA (oV 3) nilA)))) nilA))))) (consA (ooc (fzc (callE 2 f_x_law_random (consA (oV 0) (consA (ooc (fzc (op2 binA (ooc (fzc (opn lenD (consA (oV 2) nilA)))) (ooc (eC (.int 1)))))) nilA))))) nilA)))
    [some (.fl g), o1, some (.d (.str t)), some (.d (.list L)), none, none, none, o7, o8, o9, oa, ob, oc] = .nx [some (.fl g'), o1, some (.d (.str t)), some (.d (.list L)), iD (a : Int), iD (b : Int), iD (c : Int), o7, o8, o9, oa, ob, oc] ∧ a < L.length ∧ b < L.length ∧ c ≤ t.length ∧ Gn g' (n + 3) := by
  obtain ⟨a, g1, e1, ha, h1⟩ := e_random hg (by omega) L.length l1 (by omega)
  obtain ⟨b, g2, e2, hb, h2⟩ := e_random h1 (by omega) L.length l1 (by omega)
  obtain ⟨c, g3, e3, hc, h3⟩ := e_random h2 (by omega) (t.length + 1) (by omega) (by omega)
  have hx : ((t.length + 1 : Nat) : Int) = (t.length : Int) + 1 := by omega
  rw [hx] at e3
  generalize f_x_law_random = FR at e1 e2 e3 ⊢
  refine ⟨a, b, c, g3, ?_, ha, hb, by omega, h3⟩
  have hp := fun ρ => parR_3 4 5 6 ρ (.int (a : Int)) (.int (b : Int)) (.int (c : Int))
  have hl : lenD [.str t] = some (.d (.int (t.length : Int))) := lenD_s (by omega)
  simp only [gt_0, pt_0, gt_1, gt_2, gt_3, gt_4, gt_5, gt_6, gt_7, gt_8, gt_9, pt_1, pt_2, pt_3, pt_4, pt_5, pt_6, pt_7, pt_8, pt_9, co_d, co_fl, frz_d, frz_fl, sqS_eq, sq_nx, sq_rt, sq_bk, sq_ct, sq_ex, skp_eq, rtS_eq, asS_eq, ifS_eq, exS_eq, raS_eq, fin_rt, fin_nx, fin_ex, eC_eq, oV_eq, oVr_some, eV_eq, eVr_some, eM_eq, eMr_some, op1_eq, op2_eq, opn_eq, nilA_eq, consA_eq, tst_eq, tstB_ok, ifE_eq, ifR_t, ifR_f, andT_eq, orT_eq, andR_t, andR_f, orR_f, orR_t, notT_eq, dsO_nil, dsO_cons, tupE_eq, lstE_eq, tupR_some, lstR_some, callE_eq, callR_ok, callR_ex, ar_v, ar_s, refs_nil, refs_v, refs_s, bk_nil, bk_v, bk_s, bk_e, noP_eq, soP_eq, soB_int, smE_eq, smR_str, slE_eq, binA_i, binS_i, cmpE_i, cmpE_s, cmpE_b, cmpN_i, cmpN_s, cmpN_b, cmpI_i, absD_i, maxD_i, intD_i, intD_b, negD_i, lenD_l, lenD_t, ixD_t0, ixD_t1, fzc_eq, upc_eq, ooc_eq, hide_nil, hide_cons, back_nil, back_cons, bk_v1, bk_v2, nmG_eq, yesT_eq, compE_eq, compK_ok, anyS_eq, anyR_some, srO_v, srO_vs, srO_s, srR_fl, srR_d, srR_str, cmpIn_s, cmpNin_s, cm2_eq, cmR_t, cmR_f, andE_eq, orE_eq, notE_eq, andV_t, andV_f, orV_f, orV_t, notV_b, parS_eq, parR_2, callO_v, callO_vv, callO_vvv, callO_s, callO_sv, callO_svv, slD_l, allD_1, allD_2, isN_eq, forS_eq, forR_nil, enumS_eq, enR_some, isiD_str, lkN_s, lkN_v0, lkN_vi, lkR_0, lkR_i, lkR_fl, lkR_l, lkR_ex, beq_tt, beq_tf, beq_ft, beq_ff, siS_eq, siQ_fl, siR_0, siR_2, ixD_l0, ixD_l1, ixD_l2, bitsD_i, rngS1_eq, bd_ok, bd_ex, bs_ok, bs_ex, fz_d, fz_fl, fz_ex, up_ok, up_ex, oo_ok, oo_ex, lk_v, lk_s, lks_nil, lks_cons, ret_some, ret_none, Option.bind_some, Option.map_some, List.length_cons, List.length_nil, if_true, Bool.false_eq_true, if_false, Bool.not_true, Bool.not_false, List.map_cons, List.map_nil, List.cons_append, List.nil_append, List.append_nil, Nat.reduceAdd, Nat.reduceLT, Nat.zero_add, Nat.reduceLeDiff, eq_self, true_and, and_true, e1, e2, hl, e3]
  rw [hp _ (by simp) (by simp) (by simp)]
  rfl
end K85
set_option Elab.async false
set_option maxRecDepth 100000
set_option maxHeartbeats 1000000
namespace K85
open PySem PySem.Spec PyProof.Rows L2 Ev
/-- a text with its bound -/
def Ok (k : Nat) (z : Str) : Prop := z.length ≤ k ∧ PyData.strOk z = true
theorem Ok.le {k j : Nat} {z : Str} (h : Ok k z) (hk : k ≤ j) : Ok j z := ⟨Nat.le_trans h.1 hk, h.2⟩
theorem Ok.lit (s : String) {k : Nat} (h : (Str.ofString s).length ≤ k) : Ok k (Str.ofString s) := ⟨h, ok_of s⟩
theorem Ok.app {j k : Nat} {a b : Str} (h : Ok j a) (h' : Ok k b) : Ok (j + k) (a ++ b) := ⟨by rw [Str.length_append]; exact Nat.add_le_add h.1 h'.1, ok_app h.2 h'.2⟩
theorem cutS_len (z : Str) (lo hi : Option Int) : (cutS z lo hi).length ≤ z.length := by
  unfold cutS
  show (List.toArray _).size ≤ z.cps.size
  rw [List.size_toArray]
  rw [List.length_take, List.length_drop, Array.length_toList]
  omega
theorem Ok.cut {k : Nat} {z : Str} (h : Ok k z) (lo hi : Option Int) : Ok k (cutS z lo hi) := ⟨Nat.le_trans (cutS_len z lo hi) h.1, ok_cut h.2⟩
theorem rep_go (x : Array Nat) : ∀ (n : Nat) (acc : Array Nat), ((List.replicate n x).foldl (· ++ ·) acc).size = acc.size + n * x.size ∧ ∀ c ∈ ((List.replicate n x).foldl (· ++ ·) acc).toList, c ∈ acc.toList ∨ c ∈ x.toList
  | 0, acc => ⟨by simp, fun c h => .inl h⟩
  | n + 1, acc => by
    obtain ⟨h1, h2⟩ := rep_go x n (acc ++ x)
    rw [List.replicate_succ, List.foldl_cons]
    refine ⟨by rw [h1, Array.size_append, Nat.succ_mul]; omega, fun c h => ?_⟩
    rcases h2 c h with h | h
    · rw [Array.toList_append] at h
      exact List.mem_append.1 h
    · exact .inr h
theorem Ok.rep {k : Nat} {z : Str} (h : Ok k z) (n : Nat) : Ok (n * k) (repS z (n : Int)) := by
  unfold repS
  split
  · exact ⟨Nat.zero_le _, by simp [Str.empty, PyData.strOk]⟩
  · rename_i hn
    split
    · exact h.le (Nat.le_mul_of_pos_left _ (by omega))
    · obtain ⟨h1, h2⟩ := rep_go z.cps n #[]
      rw [Int.toNat_natCast]
      refine ⟨?_, ok_sub h.2 fun c hc => ?_⟩
      · show ((List.replicate n z.cps).foldl (· ++ ·) #[]).size ≤ n * k
        rw [h1]
        have := Nat.mul_le_mul_left n h.1
        show 0 + n * z.length ≤ n * k
        omega
      · rcases h2 c hc with h | h
        · simp at h
        · exact h
theorem appS {a b : Str} {j k : Nat} (h : Ok j a) (h' : Ok k b) (hk : j + k ≤ 16777216) : binA (.str a) (.str b) = some (.d (.str (a ++ b))) := if_pos (Nat.le_trans (Nat.add_le_add h.1 h'.1) hk)
theorem mulS {a : Str} {j n : Nat} (h : Ok j a) (hn : n < 2 ^ 20) (hk : j * n ≤ 16777216) : binM (.str a) (.int (n : Int)) = some (.d (.str (repS a (n : Int)))) := by
  have hb : repSB a (n : Int) = true := by
    unfold repSB
    have h1 : -(2 ^ 62) ≤ (n : Int) := by omega
    have h2 : (n : Int) < 2 ^ 20 := by omega
    have h3 : a.length * (n : Int).toNat ≤ 16777216 := by
      rw [Int.toNat_natCast]
      exact Nat.le_trans (Nat.mul_le_mul_right n h.1) hk
    rw [decide_eq_true h1, decide_eq_true h2, decide_eq_true h3]
    rfl
  show (if repSB a (n : Int) = true then imm (.str (repS a (n : Int))) else none) = _
  rw [if_pos hb]
  rfl
end K85
set_option Elab.async false
set_option maxRecDepth 100000
set_option maxHeartbeats 2000000
namespace K85
open PySem PySem.Spec PyProof.Rows L2 Ev
def Txs (k : Nat) (xs : List PyData) : Prop := ∀ x ∈ xs, ∃ z, x = .str z ∧ Ok k z
theorem Txs.nil {k : Nat} : Txs k [] := fun x h => nomatch h
theorem Txs.cons {k : Nat} {z : Str} {xs : List PyData} (h : Ok k z) (t : Txs k xs) : Txs k (.str z :: xs) := fun x hx => by
  rcases List.mem_cons.1 hx with rfl | hx
  · exact ⟨z, rfl, h⟩
  · exact t x hx
theorem tx3 {t : Str} (ht : Ok 725 t) (c : Nat) (o0 o1 o3 o4 o5 o7 o8 o9 oa ob oc : Option W) : ∃ xs, asS 7 (lstE (consA (ooc (eV 2)) (consA (ooc (fzc (op2 binA (oV 2) (ooc (eC (.str "\n")))))) (consA (ooc (fzc (slE (oV 2) noP (soP (fzc (op1 negD (ooc (eC (.int 1))))))))) (consA (ooc (eC (.str ""))) (consA (ooc (eC (.str "\n"))) (consA (ooc (fzc (op2 binA (ooc (eC (.str " "))) (oV 2)))) (consA (ooc (fzc (op2 binA (oV 2) (oV 2)))) (consA (ooc (fzc (op2 binM (oV 2) (ooc (eC (.int 5)))))) (consA (ooc (fzc (slE (oV 2) noP (soP (eV 6))))) (consA (ooc (fzc (slE (oV 2) (soP (eV 6)) noP))) nilA)))))))))))
    [o0, o1, some (.d (.str t)), o3, o4, o5, iD (c : Int), o7, o8, o9, oa, ob, oc] = .nx [o0, o1, some (.d (.str t)), o3, o4, o5, iD (c : Int), some (.fl xs), o8, o9, oa, ob, oc] ∧ Txs 5000 xs ∧ xs.length = 10 := by
  have n1 : Ok 1 ("\n" : Str) := Ok.lit "\n" (by decide)
  have s1 : Ok 1 (" " : Str) := Ok.lit " " (by decide)
  have e0 : Ok 0 ("" : Str) := Ok.lit "" (by decide)
  have a1 := appS ht n1 (by omega)
  have a2 := appS s1 ht (by omega)
  have a3 := appS ht ht (by omega)
  have a4 : binM (.str t) (.int 5) = some (.d (.str (repS t ((5 : Nat) : Int)))) := mulS (n := 5) ht (by decide) (by omega)
  have hz : t.length ≤ 16777216 := Nat.le_trans ht.1 (by decide)
  have sl := fun lo hi => slD_s (z := t) (lo := lo) (hi := hi) hz
  refine ⟨[.str t, .str (t ++ "\n"), .str (cutS t none (some (-1))), .str "", .str "\n", .str (" " ++ t), .str (t ++ t), .str (repS t ((5 : Nat) : Int)), .str (cutS t none (some (c : Int))), .str (cutS t (some (c : Int)) none)], by simp only [gt_0, pt_0, gt_1, gt_2, gt_3, gt_4, gt_5, gt_6, gt_7, gt_8, gt_9, pt_1, pt_2, pt_3, pt_4, pt_5, pt_6, pt_7, pt_8, pt_9, co_d, co_fl, frz_d, frz_fl, sqS_eq, sq_nx, sq_rt, sq_bk, sq_ct, sq_ex, skp_eq, rtS_eq, asS_eq, ifS_eq, exS_eq, raS_eq, fin_rt, fin_nx, fin_ex, eC_eq, oV_eq, oVr_some, eV_eq, eVr_some, eM_eq, eMr_some, op1_eq, op2_eq, opn_eq, nilA_eq, consA_eq, tst_eq, tstB_ok, ifE_eq, ifR_t, ifR_f, andT_eq, orT_eq, andR_t, andR_f, orR_f, orR_t, notT_eq, dsO_nil, dsO_cons, tupE_eq, lstE_eq, tupR_some, lstR_some, callE_eq, callR_ok, callR_ex, ar_v, ar_s, refs_nil, refs_v, refs_s, bk_nil, bk_v, bk_s, bk_e, noP_eq, soP_eq, soB_int, smE_eq, smR_str, slE_eq, binA_i, binS_i, cmpE_i, cmpE_s, cmpE_b, cmpN_i, cmpN_s, cmpN_b, cmpI_i, absD_i, maxD_i, intD_i, intD_b, negD_i, lenD_l, lenD_t, ixD_t0, ixD_t1, fzc_eq, upc_eq, ooc_eq, hide_nil, hide_cons, back_nil, back_cons, bk_v1, bk_v2, nmG_eq, yesT_eq, compE_eq, compK_ok, anyS_eq, anyR_some, srO_v, srO_vs, srO_s, srR_fl, srR_d, srR_str, cmpIn_s, cmpNin_s, cm2_eq, cmR_t, cmR_f, andE_eq, orE_eq, notE_eq, andV_t, andV_f, orV_f, orV_t, notV_b, parS_eq, parR_2, callO_v, callO_vv, callO_vvv, callO_s, callO_sv, callO_svv, slD_l, allD_1, allD_2, isN_eq, forS_eq, forR_nil, enumS_eq, enR_some, isiD_str, lkN_s, lkN_v0, lkN_vi, lkR_0, lkR_i, lkR_fl, lkR_l, lkR_ex, beq_tt, beq_tf, beq_ft, beq_ff, siS_eq, siQ_fl, siR_0, siR_2, ixD_l0, ixD_l1, ixD_l2, bitsD_i, rngS1_eq, bd_ok, bd_ex, bs_ok, bs_ex, fz_d, fz_fl, fz_ex, up_ok, up_ex, oo_ok, oo_ex, lk_v, lk_s, lks_nil, lks_cons, ret_some, ret_none, Option.bind_some, Option.map_some, List.length_cons, List.length_nil, if_true, Bool.false_eq_true, if_false, Bool.not_true, Bool.not_false, List.map_cons, List.map_nil, List.cons_append, List.nil_append, List.append_nil, Nat.reduceAdd, Nat.reduceLT, Nat.zero_add, Nat.reduceLeDiff, eq_self, true_and, and_true, a1, a2, a3, a4, sl], ?_, rfl⟩
  exact .cons (ht.le (by omega)) (.cons ((ht.app n1).le (by omega)) (.cons ((ht.cut _ _).le (by omega)) (.cons (e0.le (by omega)) (.cons (n1.le (by omega)) (.cons ((s1.app ht).le (by omega)) (.cons ((ht.app ht).le (by omega)) (.cons ((ht.rep 5).le (by omega)) (.cons ((ht.cut _ _).le (by omega)) (.cons ((ht.cut _ _).le (by omega)) .nil)))))))))
/-- lists of lines -/
def Lns (k m : Nat) (xs : List PyData) : Prop := ∀ x ∈ xs, ∃ ys, x = .list ys ∧ ys.length ≤ m ∧ Txs k ys
theorem Lns.nil {k m : Nat} : Lns k m [] := fun x h => nomatch h
theorem Lns.cons {k m : Nat} {z : List PyData} {xs : List PyData} (h : Txs k z) (hm : z.length ≤ m) (t : Lns k m xs) : Lns k m (.list z :: xs) := fun x hx => by
  rcases List.mem_cons.1 hx with rfl | hx
  · exact ⟨z, rfl, hm, h⟩
  · exact t x hx
theorem cutD_len {α : Type} (xs : List α) (lo hi : Option Int) : (Ev.cutD xs lo hi).length ≤ xs.length := by
  unfold Ev.cutD
  rw [List.length_take, List.length_drop]
  omega
theorem Txs.cut {k : Nat} {xs : List PyData} (h : Txs k xs) (lo hi : Option Int) : Txs k (Ev.cutD xs lo hi) := fun x hx => h x (by
  unfold Ev.cutD at hx
  exact List.mem_of_mem_drop (List.mem_of_mem_take hx))
theorem Txs.app {k : Nat} {xs ys : List PyData} (h : Txs k xs) (h' : Txs k ys) : Txs k (xs ++ ys) := fun x hx => (List.mem_append.1 hx).elim (h x) (h' x)
theorem appL {xs ys : List PyData} {j k : Nat} (h : xs.length ≤ j) (h' : ys.length ≤ k) (hk : j + k ≤ 16777216) : binA (.list xs) (.list ys) = some (.fl (xs ++ ys)) := if_pos (Nat.le_trans (Nat.add_le_add h h') hk)
theorem tx4 {L : List PyData} {k : Nat} (hL : Txs k L) (hm : L.length ≤ 725) {a b : Nat} (hb : b < L.length) (o0 o1 o2 o6 o7 o8 o9 oa ob oc : Option W) : ∃ xs, asS 8 (lstE (consA (ooc (fzc (op2 binA (ooc (fzc (slE (oV 3) noP (soP (eV 4))))) (ooc (fzc (slE (oV 3) (soP (fzc (op2 binA (oV 4) (ooc (eC (.int 1)))))) noP)))))) (consA (ooc (fzc (op2 binA (ooc (fzc (op2 binA (ooc (fzc (slE (oV 3) noP (soP (eV 4))))) (ooc (fzc (slE (oV 3) (soP (eV 4)) (soP (fzc (op2 binA (oV 4) (ooc (eC (.int 1)))))))))))) (ooc (fzc (slE (oV 3) (soP (eV 4)) noP)))))) (consA (ooc (fzc (revE (oV 3)))) (consA (ooc (fzc (op2 binA (ooc (fzc (op2 binA (ooc (fzc (slE (oV 3) noP (soP (eV 4))))) (ooc (fzc (lstE (consA (ooc (fzc (op2 ixD (oV 3) (oV 5)))) nilA))))))) (ooc (fzc (slE (oV 3) (soP (fzc (op2 binA (oV 4) (ooc (eC (.int 1)))))) noP)))))) nilA)))))
    [o0, o1, o2, some (.d (.list L)), iD (a : Int), iD (b : Int), o6, o7, o8, o9, oa, ob, oc] = .nx [o0, o1, o2, some (.d (.list L)), iD (a : Int), iD (b : Int), o6, o7, some (.fl xs), o9, oa, ob, oc] ∧ Lns k 2175 xs ∧ xs.length = 4 := by
  obtain ⟨y, hy⟩ : ∃ x, L[b]? = some x := ⟨L[b], List.getElem?_eq_getElem hb⟩
  have hc := fun lo hi => Nat.le_trans (cutD_len L lo hi) hm
  have a1 := fun lo hi lo' hi' => appL (hc lo hi) (hc lo' hi') (by decide)
  have h2 := fun lo hi lo' hi' => show (Ev.cutD L lo hi ++ Ev.cutD L lo' hi').length ≤ 1450 by
    have := hc lo hi
    have := hc lo' hi'
    rw [List.length_append]
    omega
  have a2 := fun lo hi lo' hi' lo2 hi2 => appL (h2 lo hi lo' hi') (hc lo2 hi2) (by decide)
  have h3 := fun lo hi => show (Ev.cutD L lo hi ++ [y]).length ≤ 726 by
    have := hc lo hi
    rw [List.length_append]
    simp
    omega
  have a3 := fun lo hi => appL (hc lo hi) (show [y].length ≤ 1 from Nat.le_refl _) (by decide)
  have a4 := fun lo hi lo2 hi2 => appL (h3 lo hi) (hc lo2 hi2) (by decide)
  have hy1 : Txs k [y] := fun x hx => by
    rw [List.mem_singleton.1 hx]
    exact hL y (List.mem_of_getElem? hy)
  have rv : ∀ ρ : Sl, gt ρ 3 = some (.d (.list L)) → revE (oV 3) ρ = .ok (.fl L.reverse) ρ := fun ρ h => by
    unfold revE
    simp only [gt_0, pt_0, gt_1, gt_2, gt_3, gt_4, gt_5, gt_6, gt_7, gt_8, gt_9, pt_1, pt_2, pt_3, pt_4, pt_5, pt_6, pt_7, pt_8, pt_9, co_d, co_fl, frz_d, frz_fl, sqS_eq, sq_nx, sq_rt, sq_bk, sq_ct, sq_ex, skp_eq, rtS_eq, asS_eq, ifS_eq, exS_eq, raS_eq, fin_rt, fin_nx, fin_ex, eC_eq, oV_eq, oVr_some, eV_eq, eVr_some, eM_eq, eMr_some, op1_eq, op2_eq, opn_eq, nilA_eq, consA_eq, tst_eq, tstB_ok, ifE_eq, ifR_t, ifR_f, andT_eq, orT_eq, andR_t, andR_f, orR_f, orR_t, notT_eq, dsO_nil, dsO_cons, tupE_eq, lstE_eq, tupR_some, lstR_some, callE_eq, callR_ok, callR_ex, ar_v, ar_s, refs_nil, refs_v, refs_s, bk_nil, bk_v, bk_s, bk_e, noP_eq, soP_eq, soB_int, smE_eq, smR_str, slE_eq, binA_i, binS_i, cmpE_i, cmpE_s, cmpE_b, cmpN_i, cmpN_s, cmpN_b, cmpI_i, absD_i, maxD_i, intD_i, intD_b, negD_i, lenD_l, lenD_t, ixD_t0, ixD_t1, fzc_eq, upc_eq, ooc_eq, hide_nil, hide_cons, back_nil, back_cons, bk_v1, bk_v2, nmG_eq, yesT_eq, compE_eq, compK_ok, anyS_eq, anyR_some, srO_v, srO_vs, srO_s, srR_fl, srR_d, srR_str, cmpIn_s, cmpNin_s, cm2_eq, cmR_t, cmR_f, andE_eq, orE_eq, notE_eq, andV_t, andV_f, orV_f, orV_t, notV_b, parS_eq, parR_2, callO_v, callO_vv, callO_vvv, callO_s, callO_sv, callO_svv, slD_l, allD_1, allD_2, isN_eq, forS_eq, forR_nil, enumS_eq, enR_some, isiD_str, lkN_s, lkN_v0, lkN_vi, lkR_0, lkR_i, lkR_fl, lkR_l, lkR_ex, beq_tt, beq_tf, beq_ft, beq_ff, siS_eq, siQ_fl, siR_0, siR_2, ixD_l0, ixD_l1, ixD_l2, bitsD_i, rngS1_eq, bd_ok, bd_ex, bs_ok, bs_ex, fz_d, fz_fl, fz_ex, up_ok, up_ex, oo_ok, oo_ex, lk_v, lk_s, lks_nil, lks_cons, ret_some, ret_none, Option.bind_some, Option.map_some, List.length_cons, List.length_nil, if_true, Bool.false_eq_true, if_false, Bool.not_true, Bool.not_false, List.map_cons, List.map_nil, List.cons_append, List.nil_append, List.append_nil, Nat.reduceAdd, Nat.reduceLT, Nat.zero_add, Nat.reduceLeDiff, eq_self, true_and, and_true, h]
  have r1 := rv [o0, o1, o2, some (.d (.list L)), iD (a : Int), iD (b : Int), o6, o7, o8, o9, oa, ob, oc] rfl
  refine ⟨_, by simp only [gt_0, pt_0, gt_1, gt_2, gt_3, gt_4, gt_5, gt_6, gt_7, gt_8, gt_9, pt_1, pt_2, pt_3, pt_4, pt_5, pt_6, pt_7, pt_8, pt_9, co_d, co_fl, frz_d, frz_fl, sqS_eq, sq_nx, sq_rt, sq_bk, sq_ct, sq_ex, skp_eq, rtS_eq, asS_eq, ifS_eq, exS_eq, raS_eq, fin_rt, fin_nx, fin_ex, eC_eq, oV_eq, oVr_some, eV_eq, eVr_some, eM_eq, eMr_some, op1_eq, op2_eq, opn_eq, nilA_eq, consA_eq, tst_eq, tstB_ok, ifE_eq, ifR_t, ifR_f, andT_eq, orT_eq, andR_t, andR_f, orR_f, orR_t, notT_eq, dsO_nil, dsO_cons, tupE_eq, lstE_eq, tupR_some, lstR_some, callE_eq, callR_ok, callR_ex, ar_v, ar_s, refs_nil, refs_v, refs_s, bk_nil, bk_v, bk_s, bk_e, noP_eq, soP_eq, soB_int, smE_eq, smR_str, slE_eq, binA_i, binS_i, cmpE_i, cmpE_s, cmpE_b, cmpN_i, cmpN_s, cmpN_b, cmpI_i, absD_i, maxD_i, intD_i, intD_b, negD_i, lenD_l, lenD_t, ixD_t0, ixD_t1, fzc_eq, upc_eq, ooc_eq, hide_nil, hide_cons, back_nil, back_cons, bk_v1, bk_v2, nmG_eq, yesT_eq, compE_eq, compK_ok, anyS_eq, anyR_some, srO_v, srO_vs, srO_s, srR_fl, srR_d, srR_str, cmpIn_s, cmpNin_s, cm2_eq, cmR_t, cmR_f, andE_eq, orE_eq, notE_eq, andV_t, andV_f, orV_f, orV_t, notV_b, parS_eq, parR_2, callO_v, callO_vv, callO_vvv, callO_s, callO_sv, callO_svv, slD_l, allD_1, allD_2, isN_eq, forS_eq, forR_nil, enumS_eq, enR_some, isiD_str, lkN_s, lkN_v0, lkN_vi, lkR_0, lkR_i, lkR_fl, lkR_l, lkR_ex, beq_tt, beq_tf, beq_ft, beq_ff, siS_eq, siQ_fl, siR_0, siR_2, ixD_l0, ixD_l1, ixD_l2, bitsD_i, rngS1_eq, bd_ok, bd_ex, bs_ok, bs_ex, fz_d, fz_fl, fz_ex, up_ok, up_ex, oo_ok, oo_ex, lk_v, lk_s, lks_nil, lks_cons, ret_some, ret_none, Option.bind_some, Option.map_some, List.length_cons, List.length_nil, if_true, Bool.false_eq_true, if_false, Bool.not_true, Bool.not_false, List.map_cons, List.map_nil, List.cons_append, List.nil_append, List.append_nil, Nat.reduceAdd, Nat.reduceLT, Nat.zero_add, Nat.reduceLeDiff, eq_self, true_and, and_true, a1, a2, a3, a4, r1, ixD_l (Ev.atI_nat hy)]; rfl, ?_, rfl⟩
  refine .cons ((hL.cut _ _).app (hL.cut _ _)) (Nat.le_trans (h2 ..) (by decide)) (.cons (((hL.cut _ _).app (hL.cut _ _)).app (hL.cut _ _)) ?_ (.cons (fun x hx => hL x (List.mem_reverse.1 hx)) ?_ (.cons (((hL.cut _ _).app hy1).app (hL.cut _ _)) ?_ .nil)))
  · have := h2 none (some (a : Int)) (some (a : Int)) (some ((a : Int) + 1))
    have := hc (some (a : Int)) none
    rw [List.length_append]
    omega
  · rw [List.length_reverse]
    omega
  · have := h3 none (some (a : Int))
    have := hc (some ((a : Int) + 1)) none
    rw [List.length_append]
    omega
end K85
set_option Elab.async false
set_option maxRecDepth 100000
set_option maxHeartbeats 2000000
namespace K85
open PySem PySem.Spec PyProof.Rows L2 Ev
def strO : PyData → Str
  | .str z => z
  | _ => ""
theorem Txs.eq {k : Nat} {ys : List PyData} (h : Txs k ys) : ys = (ys.map strO).map PyData.str ∧ ∀ z ∈ ys.map strO, Ok k z := by
  constructor
  · rw [List.map_map]
    conv => lhs; rw [← List.map_id ys]
    refine List.map_congr_left fun x hx => ?_
    obtain ⟨z, rfl, -⟩ := h x hx
    rfl
  · intro z hz
    obtain ⟨x, hx, rfl⟩ := List.mem_map.1 hz
    obtain ⟨z, rfl, o⟩ := h x hx
    exact o
noncomputable abbrev jnS : SS := sqS (exS (appE 7 (fzc (smE joinD (ooc (eC (.str ""))) (ooc (fzc (compE [12] (nmG 12) yesT (fzc (op2 binA (oV 12) (ooc (eC (.str "\n"))))) (anyS (oV 9))))))))) skp
theorem jn_ok {ys acc : List PyData} (h : Txs 1000 ys) (hm : ys.length ≤ 2500) (ha : acc.length ≤ 1000) (o0 o1 o2 o3 o4 o5 o6 o8 oa ob : Option W) : ∃ z, jnS [o0, o1, o2, o3, o4, o5, o6, some (.fl acc), o8, some (.d (.list ys)), oa, ob, none] = .nx [o0, o1, o2, o3, o4, o5, o6, some (.fl (acc ++ [.str z])), o8, some (.d (.list ys)), oa, ob, none] ∧ Ok 3000000 z := by
  obtain ⟨e, p⟩ := h.eq
  have n1 : Ok 1 ("\n" : Str) := Ok.lit "\n" (by decide)
  have hg : compGo ([12] ++ []) (nmG 12) yesT (fzc (op2 binA (oV 12) (ooc (eC (.str "\n"))))) ys (hide ([12] ++ []) [o0, o1, o2, o3, o4, o5, o6, some (.fl acc), o8, some (.d (.list ys)), oa, ob, none]) = some (ys.map (fun x => .str (strO x ++ "\n")), [o0, o1, o2, o3, o4, o5, o6, some (.fl acc), o8, some (.d (.list ys)), oa, ob, none]) := by
    refine compGo_map [o0, o1, o2, o3, o4, o5, o6, some (.fl acc), o8, some (.d (.list ys)), oa, ob, none] _ fun x hx => ?_
    obtain ⟨z, rfl, o⟩ := h x hx
    have a1 := appS o n1 (by omega)
    exact ⟨[o0, o1, o2, o3, o4, o5, o6, some (.fl acc), o8, some (.d (.list ys)), oa, ob, some (.d (.str z))], _, [o0, o1, o2, o3, o4, o5, o6, some (.fl acc), o8, some (.d (.list ys)), oa, ob, some (.d (.str z))], rfl, rfl, by
      have g12 : gt [o0, o1, o2, o3, o4, o5, o6, some (.fl acc), o8, some (.d (.list ys)), oa, ob, some (.d (.str z))] 12 = some (.d (.str z)) := rfl
      simp only [gt_0, pt_0, gt_1, gt_2, gt_3, gt_4, gt_5, gt_6, gt_7, gt_8, gt_9, pt_1, pt_2, pt_3, pt_4, pt_5, pt_6, pt_7, pt_8, pt_9, co_d, co_fl, frz_d, frz_fl, sqS_eq, sq_nx, sq_rt, sq_bk, sq_ct, sq_ex, skp_eq, rtS_eq, asS_eq, ifS_eq, exS_eq, raS_eq, fin_rt, fin_nx, fin_ex, eC_eq, oV_eq, oVr_some, eV_eq, eVr_some, eM_eq, eMr_some, op1_eq, op2_eq, opn_eq, nilA_eq, consA_eq, tst_eq, tstB_ok, ifE_eq, ifR_t, ifR_f, andT_eq, orT_eq, andR_t, andR_f, orR_f, orR_t, notT_eq, dsO_nil, dsO_cons, tupE_eq, lstE_eq, tupR_some, lstR_some, callE_eq, callR_ok, callR_ex, ar_v, ar_s, refs_nil, refs_v, refs_s, bk_nil, bk_v, bk_s, bk_e, noP_eq, soP_eq, soB_int, smE_eq, smR_str, slE_eq, binA_i, binS_i, cmpE_i, cmpE_s, cmpE_b, cmpN_i, cmpN_s, cmpN_b, cmpI_i, absD_i, maxD_i, intD_i, intD_b, negD_i, lenD_l, lenD_t, ixD_t0, ixD_t1, fzc_eq, upc_eq, ooc_eq, hide_nil, hide_cons, back_nil, back_cons, bk_v1, bk_v2, nmG_eq, yesT_eq, compE_eq, compK_ok, anyS_eq, anyR_some, srO_v, srO_vs, srO_s, srR_fl, srR_d, srR_str, cmpIn_s, cmpNin_s, cm2_eq, cmR_t, cmR_f, andE_eq, orE_eq, notE_eq, andV_t, andV_f, orV_f, orV_t, notV_b, parS_eq, parR_2, callO_v, callO_vv, callO_vvv, callO_s, callO_sv, callO_svv, slD_l, allD_1, allD_2, isN_eq, forS_eq, forR_nil, enumS_eq, enR_some, isiD_str, lkN_s, lkN_v0, lkN_vi, lkR_0, lkR_i, lkR_fl, lkR_l, lkR_ex, beq_tt, beq_tf, beq_ft, beq_ff, siS_eq, siQ_fl, siR_0, siR_2, ixD_l0, ixD_l1, ixD_l2, bitsD_i, rngS1_eq, bd_ok, bd_ex, bs_ok, bs_ex, fz_d, fz_fl, fz_ex, up_ok, up_ex, oo_ok, oo_ex, lk_v, lk_s, lks_nil, lks_cons, ret_some, ret_none, Option.bind_some, Option.map_some, List.length_cons, List.length_nil, if_true, Bool.false_eq_true, if_false, Bool.not_true, Bool.not_false, List.map_cons, List.map_nil, List.cons_append, List.nil_append, List.append_nil, Nat.reduceAdd, Nat.reduceLT, Nat.zero_add, Nat.reduceLeDiff, eq_self, true_and, and_true, g12, a1]
      rfl, rfl⟩
  have hL : ys.length ≤ 16777216 := by omega
  have hz : ∀ z ∈ (ys.map strO).map (fun z => z ++ ("\n" : Str)), Ok 1001 z := fun z hz => by
    obtain ⟨w, hw, rfl⟩ := List.mem_map.1 hz
    exact (p w hw).app n1
  have hl0 : ("" : Str).length = 0 := rfl
  have hj := joinD_ok (y := "") (fun z h => (hz z h).1) (by rw [List.length_map, List.length_map, hl0]; omega)
  have hj' : joinD "" (.list (ys.map (fun x => .str (strO x ++ "\n")))) = some (.d (.str (Str.join "" ((ys.map strO).map (fun z => z ++ ("\n" : Str)))))) := by
    rw [← hj, List.map_map, List.map_map]
    rfl
  have hb : back ([12] ++ []) [o0, o1, o2, o3, o4, o5, o6, some (.fl acc), o8, some (.d (.list ys)), oa, ob, none] [o0, o1, o2, o3, o4, o5, o6, some (.fl acc), o8, some (.d (.list ys)), oa, ob, none] = [o0, o1, o2, o3, o4, o5, o6, some (.fl acc), o8, some (.d (.list ys)), oa, ob, none] := rfl
  refine ⟨Str.join "" ((ys.map strO).map (fun z => z ++ ("\n" : Str))), ?_, ?_, ?_⟩
  · have hs : ∀ s : SD, ∀ z, s [o0, o1, o2, o3, o4, o5, o6, some (.fl acc), o8, some (.d (.list ys)), oa, ob, none] = .ok (.str z) [o0, o1, o2, o3, o4, o5, o6, some (.fl acc), o8, some (.d (.list ys)), oa, ob, none] → appE 7 s [o0, o1, o2, o3, o4, o5, o6, some (.fl acc), o8, some (.d (.list ys)), oa, ob, none] = .ok (.d .none) [o0, o1, o2, o3, o4, o5, o6, some (.fl (acc ++ [.str z])), o8, some (.d (.list ys)), oa, ob, none] := fun s z e => by
      have hq : acc.length < 16777216 := by omega
      unfold appE
      simp only [gt_7, e, bd_ok, if_pos hq, pt_7]
    have hc := compR_ok (ln := []) hL hg
    rw [hb] at hc
    unfold jnS
    rw [sq_n (ρ1 := [o0, o1, o2, o3, o4, o5, o6, some (.fl (acc ++ [.str (Str.join "" ((ys.map strO).map (fun z => z ++ ("\n" : Str))))])), o8, some (.d (.list ys)), oa, ob, none])]
    · rfl
    · rw [exS_eq, hs _ (Str.join "" ((ys.map strO).map (fun z => z ++ ("\n" : Str)))) (by simp only [gt_0, pt_0, gt_1, gt_2, gt_3, gt_4, gt_5, gt_6, gt_7, gt_8, gt_9, pt_1, pt_2, pt_3, pt_4, pt_5, pt_6, pt_7, pt_8, pt_9, co_d, co_fl, frz_d, frz_fl, sqS_eq, sq_nx, sq_rt, sq_bk, sq_ct, sq_ex, skp_eq, rtS_eq, asS_eq, ifS_eq, exS_eq, raS_eq, fin_rt, fin_nx, fin_ex, eC_eq, oV_eq, oVr_some, eV_eq, eVr_some, eM_eq, eMr_some, op1_eq, op2_eq, opn_eq, nilA_eq, consA_eq, tst_eq, tstB_ok, ifE_eq, ifR_t, ifR_f, andT_eq, orT_eq, andR_t, andR_f, orR_f, orR_t, notT_eq, dsO_nil, dsO_cons, tupE_eq, lstE_eq, tupR_some, lstR_some, callE_eq, callR_ok, callR_ex, ar_v, ar_s, refs_nil, refs_v, refs_s, bk_nil, bk_v, bk_s, bk_e, noP_eq, soP_eq, soB_int, smE_eq, smR_str, slE_eq, binA_i, binS_i, cmpE_i, cmpE_s, cmpE_b, cmpN_i, cmpN_s, cmpN_b, cmpI_i, absD_i, maxD_i, intD_i, intD_b, negD_i, lenD_l, lenD_t, ixD_t0, ixD_t1, fzc_eq, upc_eq, ooc_eq, hide_nil, hide_cons, back_nil, back_cons, bk_v1, bk_v2, nmG_eq, yesT_eq, compE_eq, compK_ok, anyS_eq, anyR_some, srO_v, srO_vs, srO_s, srR_fl, srR_d, srR_str, cmpIn_s, cmpNin_s, cm2_eq, cmR_t, cmR_f, andE_eq, orE_eq, notE_eq, andV_t, andV_f, orV_f, orV_t, notV_b, parS_eq, parR_2, callO_v, callO_vv, callO_vvv, callO_s, callO_sv, callO_svv, slD_l, allD_1, allD_2, isN_eq, forS_eq, forR_nil, enumS_eq, enR_some, isiD_str, lkN_s, lkN_v0, lkN_vi, lkR_0, lkR_i, lkR_fl, lkR_l, lkR_ex, beq_tt, beq_tf, beq_ft, beq_ff, siS_eq, siQ_fl, siR_0, siR_2, ixD_l0, ixD_l1, ixD_l2, bitsD_i, rngS1_eq, bd_ok, bd_ex, bs_ok, bs_ex, fz_d, fz_fl, fz_ex, up_ok, up_ex, oo_ok, oo_ex, lk_v, lk_s, lks_nil, lks_cons, ret_some, ret_none, Option.bind_some, Option.map_some, List.length_cons, List.length_nil, if_true, Bool.false_eq_true, if_false, Bool.not_true, Bool.not_false, List.map_cons, List.map_nil, List.cons_append, List.nil_append, List.append_nil, Nat.reduceAdd, Nat.reduceLT, Nat.zero_add, Nat.reduceLeDiff, eq_self, true_and, and_true, hc, hj'])]
      rfl
  · have := join_len "" (fun z h => (hz z h).1)
    rw [List.length_map, List.length_map, hl0] at this
    omega
  · exact join_ok (ok_of _) fun z h => (hz z h).2
theorem jn_loop (o0 o1 o2 o3 o4 o5 o6 o8 oa ob : Option W) : ∀ (xs acc : List PyData) (o9 : Option W), Lns 1000 2500 xs → acc.length + xs.length ≤ 1000 → Txs 3000000 acc → ∃ acc' o9', forGo (nmG 9) jnS xs [o0, o1, o2, o3, o4, o5, o6, some (.fl acc), o8, o9, oa, ob, none] = .nx [o0, o1, o2, o3, o4, o5, o6, some (.fl acc'), o8, o9', oa, ob, none] ∧ Txs 3000000 acc' ∧ acc'.length = acc.length + xs.length
  | [], acc, o9, _, _, ha => ⟨acc, o9, forGo_nil _ _ _, ha, rfl⟩
  | x :: xs, acc, o9, h, hl, ha => by
    obtain ⟨ys, rfl, hm, ht⟩ := h x List.mem_cons_self
    rw [List.length_cons] at hl
    obtain ⟨z, e, oz⟩ := jn_ok ht hm (acc := acc) (by omega) o0 o1 o2 o3 o4 o5 o6 o8 oa ob
    obtain ⟨acc', o9', e2, t2, l2⟩ := jn_loop o0 o1 o2 o3 o4 o5 o6 o8 oa ob xs (acc ++ [.str z]) (some (.d (.list ys))) (fun x hx => h x (List.mem_cons_of_mem _ hx)) (by rw [List.length_append, List.length_singleton]; omega) (ha.app (.cons oz .nil))
    refine ⟨acc', o9', ?_, t2, by rw [l2, List.length_append, List.length_singleton, List.length_cons]; omega⟩
    have tg : nmG 9 (.list ys) [o0, o1, o2, o3, o4, o5, o6, some (.fl acc), o8, o9, oa, ob, none] = some [o0, o1, o2, o3, o4, o5, o6, some (.fl acc), o8, some (.d (.list ys)), oa, ob, none] := rfl
    rw [forGo_nx tg e]
    exact e2
end K85
set_option Elab.async false
set_option maxRecDepth 100000
set_option maxHeartbeats 2000000
namespace K85
open PySem PySem.Spec PyProof.Rows L2 Ev
theorem rep_one (x : PyData) : ∀ n : Nat, (List.replicate n [x]).flatten = List.replicate n x
  | 0 => rfl
  | n + 1 => by
    rw [List.replicate_succ, List.flatten_cons, rep_one x n]
    rfl
theorem mulL {x : PyData} {n : Nat} (hn : n ≤ 1000) : binM (.list [x]) (.int (n : Int)) = some (.fl (List.replicate n x)) := by
  have h : -(2 ^ 62) ≤ (n : Int) ∧ (n : Int) < 2 ^ 62 ∧ [x].length * (n : Int).toNat ≤ 16777216 := ⟨by omega, by omega, by rw [Int.toNat_natCast, List.length_singleton]; omega⟩
  unfold binM
  simp only
  rw [if_pos h, Int.toNat_natCast, rep_one]
noncomputable abbrev src5 : SI := anyS (ooc (fzc (op2 binA (oV 8) (ooc (fzc (lstE (consA (ooc (fzc (op2 binA (oV 3) (ooc (fzc (lstE (consA (ooc (eC (.str "0 1"))) nilA))))))) (consA (ooc (fzc (op2 binA (oV 3) (ooc (fzc (lstE (consA (ooc (fzc (op2 binA (ooc (fzc (op2 ixD (oV 3) (ooc (eC (.int 0)))))) (ooc (eC (.str " 1")))))) nilA))))))) (consA (ooc (fzc (op2 binA (oV 3) (ooc (fzc (lstE (consA (ooc (fzc (smE joinD (ooc (eC (.str " "))) (ooc (fzc (op2 binM (ooc (fzc (lstE (consA (ooc (eC (.str "1"))) nilA)))) (ooc (fzc (opn lenD (consA (ooc (fzc (op2 ixD (oV 1) (ooc (eC (.int 0)))))) nilA)))))))))) nilA))))))) (consA (ooc (fzc (op2 binA (oV 3) (ooc (fzc (lstE (consA (ooc (fzc (op2 binA (ooc (fzc (op2 binM (ooc (eC (.str "2/4 "))) (ooc (fzc (op2 binS (ooc (fzc (opn lenD (consA (ooc (fzc (op2 ixD (oV 1) (ooc (eC (.int 0)))))) nilA)))) (ooc (eC (.int 1))))))))) (ooc (eC (.str "1")))))) nilA))))))) nilA))))))))))
theorem it_ok {X : SD} {ρ : Sl} {L : List PyData} {x : PyData} (h3 : gt ρ 3 = some (.d (.list L))) (hX : X ρ = .ok x ρ) (ha : binA (.list L) (.list [x]) = some (.fl (L ++ [x]))) : fzc (op2 binA (oV 3) (ooc (fzc (lstE (consA (ooc X) nilA))))) ρ = .ok (.list (L ++ [x])) ρ := by
  generalize binA = BA at ha ⊢
  simp only [gt_0, pt_0, gt_1, gt_2, gt_3, gt_4, gt_5, gt_6, gt_7, gt_8, gt_9, pt_1, pt_2, pt_3, pt_4, pt_5, pt_6, pt_7, pt_8, pt_9, co_d, co_fl, frz_d, frz_fl, sqS_eq, sq_nx, sq_rt, sq_bk, sq_ct, sq_ex, skp_eq, rtS_eq, asS_eq, ifS_eq, exS_eq, raS_eq, fin_rt, fin_nx, fin_ex, eC_eq, oV_eq, oVr_some, eV_eq, eVr_some, eM_eq, eMr_some, op1_eq, op2_eq, opn_eq, nilA_eq, consA_eq, tst_eq, tstB_ok, ifE_eq, ifR_t, ifR_f, andT_eq, orT_eq, andR_t, andR_f, orR_f, orR_t, notT_eq, dsO_nil, dsO_cons, tupE_eq, lstE_eq, tupR_some, lstR_some, callE_eq, callR_ok, callR_ex, ar_v, ar_s, refs_nil, refs_v, refs_s, bk_nil, bk_v, bk_s, bk_e, noP_eq, soP_eq, soB_int, smE_eq, smR_str, slE_eq, binA_i, binS_i, cmpE_i, cmpE_s, cmpE_b, cmpN_i, cmpN_s, cmpN_b, cmpI_i, absD_i, maxD_i, intD_i, intD_b, negD_i, lenD_l, lenD_t, ixD_t0, ixD_t1, fzc_eq, upc_eq, ooc_eq, hide_nil, hide_cons, back_nil, back_cons, bk_v1, bk_v2, nmG_eq, yesT_eq, compE_eq, compK_ok, anyS_eq, anyR_some, srO_v, srO_vs, srO_s, srR_fl, srR_d, srR_str, cmpIn_s, cmpNin_s, cm2_eq, cmR_t, cmR_f, andE_eq, orE_eq, notE_eq, andV_t, andV_f, orV_f, orV_t, notV_b, parS_eq, parR_2, callO_v, callO_vv, callO_vvv, callO_s, callO_sv, callO_svv, slD_l, allD_1, allD_2, isN_eq, forS_eq, forR_nil, enumS_eq, enR_some, isiD_str, lkN_s, lkN_v0, lkN_vi, lkR_0, lkR_i, lkR_fl, lkR_l, lkR_ex, beq_tt, beq_tf, beq_ft, beq_ff, siS_eq, siQ_fl, siR_0, siR_2, ixD_l0, ixD_l1, ixD_l2, bitsD_i, rngS1_eq, bd_ok, bd_ex, bs_ok, bs_ex, fz_d, fz_fl, fz_ex, up_ok, up_ex, oo_ok, oo_ex, lk_v, lk_s, lks_nil, lks_cons, ret_some, ret_none, Option.bind_some, Option.map_some, List.length_cons, List.length_nil, if_true, Bool.false_eq_true, if_false, Bool.not_true, Bool.not_false, List.map_cons, List.map_nil, List.cons_append, List.nil_append, List.append_nil, Nat.reduceAdd, Nat.reduceLT, Nat.zero_add, Nat.reduceLeDiff, eq_self, true_and, and_true, h3, hX, ha]
theorem src_ok {X1 X2 X3 X4 : SD} {ρ : Sl} {xs : List PyData} {x1 x2 x3 x4 : PyData} (h8 : gt ρ 8 = some (.fl xs)) (h1 : X1 ρ = .ok x1 ρ) (h2 : X2 ρ = .ok x2 ρ) (h3 : X3 ρ = .ok x3 ρ) (h4 : X4 ρ = .ok x4 ρ) (ha : binA (.list xs) (.list [x1, x2, x3, x4]) = some (.fl (xs ++ [x1, x2, x3, x4]))) : anyS (ooc (fzc (op2 binA (oV 8) (ooc (fzc (lstE (consA (ooc X1) (consA (ooc X2) (consA (ooc X3) (consA (ooc X4) nilA)))))))))) ρ = .ok (xs ++ [x1, x2, x3, x4], []) ρ := by
  generalize binA = BA at ha ⊢
  simp only [gt_0, pt_0, gt_1, gt_2, gt_3, gt_4, gt_5, gt_6, gt_7, gt_8, gt_9, pt_1, pt_2, pt_3, pt_4, pt_5, pt_6, pt_7, pt_8, pt_9, co_d, co_fl, frz_d, frz_fl, sqS_eq, sq_nx, sq_rt, sq_bk, sq_ct, sq_ex, skp_eq, rtS_eq, asS_eq, ifS_eq, exS_eq, raS_eq, fin_rt, fin_nx, fin_ex, eC_eq, oV_eq, oVr_some, eV_eq, eVr_some, eM_eq, eMr_some, op1_eq, op2_eq, opn_eq, nilA_eq, consA_eq, tst_eq, tstB_ok, ifE_eq, ifR_t, ifR_f, andT_eq, orT_eq, andR_t, andR_f, orR_f, orR_t, notT_eq, dsO_nil, dsO_cons, tupE_eq, lstE_eq, tupR_some, lstR_some, callE_eq, callR_ok, callR_ex, ar_v, ar_s, refs_nil, refs_v, refs_s, bk_nil, bk_v, bk_s, bk_e, noP_eq, soP_eq, soB_int, smE_eq, smR_str, slE_eq, binA_i, binS_i, cmpE_i, cmpE_s, cmpE_b, cmpN_i, cmpN_s, cmpN_b, cmpI_i, absD_i, maxD_i, intD_i, intD_b, negD_i, lenD_l, lenD_t, ixD_t0, ixD_t1, fzc_eq, upc_eq, ooc_eq, hide_nil, hide_cons, back_nil, back_cons, bk_v1, bk_v2, nmG_eq, yesT_eq, compE_eq, compK_ok, anyS_eq, anyR_some, srO_v, srO_vs, srO_s, srR_fl, srR_d, srR_str, cmpIn_s, cmpNin_s, cm2_eq, cmR_t, cmR_f, andE_eq, orE_eq, notE_eq, andV_t, andV_f, orV_f, orV_t, notV_b, parS_eq, parR_2, callO_v, callO_vv, callO_vvv, callO_s, callO_sv, callO_svv, slD_l, allD_1, allD_2, isN_eq, forS_eq, forR_nil, enumS_eq, enR_some, isiD_str, lkN_s, lkN_v0, lkN_vi, lkR_0, lkR_i, lkR_fl, lkR_l, lkR_ex, beq_tt, beq_tf, beq_ft, beq_ff, siS_eq, siQ_fl, siR_0, siR_2, ixD_l0, ixD_l1, ixD_l2, bitsD_i, rngS1_eq, bd_ok, bd_ex, bs_ok, bs_ex, fz_d, fz_fl, fz_ex, up_ok, up_ex, oo_ok, oo_ex, lk_v, lk_s, lks_nil, lks_cons, ret_some, ret_none, Option.bind_some, Option.map_some, List.length_cons, List.length_nil, if_true, Bool.false_eq_true, if_false, Bool.not_true, Bool.not_false, List.map_cons, List.map_nil, List.cons_append, List.nil_append, List.append_nil, Nat.reduceAdd, Nat.reduceLT, Nat.zero_add, Nat.reduceLeDiff, eq_self, true_and, and_true, h8, h1, h2, h3, h4, ha]
theorem ln_ok {ρ : Sl} {n : Int} {w x : PyData} (h : gt ρ 1 = some (.d w)) (hx : ixD w (.int 0) = some (.d x)) (hl : lenD [x] = some (.d (.int n))) : fzc (opn lenD (consA (ooc (fzc (op2 ixD (oV 1) (ooc (eC (.int 0)))))) nilA)) ρ = .ok (.int n) ρ := by
  generalize lenD = LD at hl ⊢
  generalize ixD = IX at hx ⊢
  simp only [gt_0, pt_0, gt_1, gt_2, gt_3, gt_4, gt_5, gt_6, gt_7, gt_8, gt_9, pt_1, pt_2, pt_3, pt_4, pt_5, pt_6, pt_7, pt_8, pt_9, co_d, co_fl, frz_d, frz_fl, sqS_eq, sq_nx, sq_rt, sq_bk, sq_ct, sq_ex, skp_eq, rtS_eq, asS_eq, ifS_eq, exS_eq, raS_eq, fin_rt, fin_nx, fin_ex, eC_eq, oV_eq, oVr_some, eV_eq, eVr_some, eM_eq, eMr_some, op1_eq, op2_eq, opn_eq, nilA_eq, consA_eq, tst_eq, tstB_ok, ifE_eq, ifR_t, ifR_f, andT_eq, orT_eq, andR_t, andR_f, orR_f, orR_t, notT_eq, dsO_nil, dsO_cons, tupE_eq, lstE_eq, tupR_some, lstR_some, callE_eq, callR_ok, callR_ex, ar_v, ar_s, refs_nil, refs_v, refs_s, bk_nil, bk_v, bk_s, bk_e, noP_eq, soP_eq, soB_int, smE_eq, smR_str, slE_eq, binA_i, binS_i, cmpE_i, cmpE_s, cmpE_b, cmpN_i, cmpN_s, cmpN_b, cmpI_i, absD_i, maxD_i, intD_i, intD_b, negD_i, lenD_l, lenD_t, ixD_t0, ixD_t1, fzc_eq, upc_eq, ooc_eq, hide_nil, hide_cons, back_nil, back_cons, bk_v1, bk_v2, nmG_eq, yesT_eq, compE_eq, compK_ok, anyS_eq, anyR_some, srO_v, srO_vs, srO_s, srR_fl, srR_d, srR_str, cmpIn_s, cmpNin_s, cm2_eq, cmR_t, cmR_f, andE_eq, orE_eq, notE_eq, andV_t, andV_f, orV_f, orV_t, notV_b, parS_eq, parR_2, callO_v, callO_vv, callO_vvv, callO_s, callO_sv, callO_svv, slD_l, allD_1, allD_2, isN_eq, forS_eq, forR_nil, enumS_eq, enR_some, isiD_str, lkN_s, lkN_v0, lkN_vi, lkR_0, lkR_i, lkR_fl, lkR_l, lkR_ex, beq_tt, beq_tf, beq_ft, beq_ff, siS_eq, siQ_fl, siR_0, siR_2, ixD_l0, ixD_l1, ixD_l2, bitsD_i, rngS1_eq, bd_ok, bd_ex, bs_ok, bs_ex, fz_d, fz_fl, fz_ex, up_ok, up_ex, oo_ok, oo_ex, lk_v, lk_s, lks_nil, lks_cons, ret_some, ret_none, Option.bind_some, Option.map_some, List.length_cons, List.length_nil, if_true, Bool.false_eq_true, if_false, Bool.not_true, Bool.not_false, List.map_cons, List.map_nil, List.cons_append, List.nil_append, List.append_nil, Nat.reduceAdd, Nat.reduceLT, Nat.zero_add, Nat.reduceLeDiff, eq_self, true_and, and_true, h, hx, hl]
theorem i3_ok {LN : SD} {ρ : Sl} {n : Int} {ys : List PyData} {z : Str} (h : LN ρ = .ok (.int n) ρ) (hm : binM (.list [.str "1"]) (.int n) = some (.fl ys)) (hj : joinD " " (.list ys) = some (.d (.str z))) : fzc (smE joinD (ooc (eC (.str " "))) (ooc (fzc (op2 binM (ooc (fzc (lstE (consA (ooc (eC (.str "1"))) nilA)))) (ooc LN))))) ρ = .ok (.str z) ρ := by
  generalize binM = BM at hm ⊢
  generalize joinD = JD at hj ⊢
  simp only [gt_0, pt_0, gt_1, gt_2, gt_3, gt_4, gt_5, gt_6, gt_7, gt_8, gt_9, pt_1, pt_2, pt_3, pt_4, pt_5, pt_6, pt_7, pt_8, pt_9, co_d, co_fl, frz_d, frz_fl, sqS_eq, sq_nx, sq_rt, sq_bk, sq_ct, sq_ex, skp_eq, rtS_eq, asS_eq, ifS_eq, exS_eq, raS_eq, fin_rt, fin_nx, fin_ex, eC_eq, oV_eq, oVr_some, eV_eq, eVr_some, eM_eq, eMr_some, op1_eq, op2_eq, opn_eq, nilA_eq, consA_eq, tst_eq, tstB_ok, ifE_eq, ifR_t, ifR_f, andT_eq, orT_eq, andR_t, andR_f, orR_f, orR_t, notT_eq, dsO_nil, dsO_cons, tupE_eq, lstE_eq, tupR_some, lstR_some, callE_eq, callR_ok, callR_ex, ar_v, ar_s, refs_nil, refs_v, refs_s, bk_nil, bk_v, bk_s, bk_e, noP_eq, soP_eq, soB_int, smE_eq, smR_str, slE_eq, binA_i, binS_i, cmpE_i, cmpE_s, cmpE_b, cmpN_i, cmpN_s, cmpN_b, cmpI_i, absD_i, maxD_i, intD_i, intD_b, negD_i, lenD_l, lenD_t, ixD_t0, ixD_t1, fzc_eq, upc_eq, ooc_eq, hide_nil, hide_cons, back_nil, back_cons, bk_v1, bk_v2, nmG_eq, yesT_eq, compE_eq, compK_ok, anyS_eq, anyR_some, srO_v, srO_vs, srO_s, srR_fl, srR_d, srR_str, cmpIn_s, cmpNin_s, cm2_eq, cmR_t, cmR_f, andE_eq, orE_eq, notE_eq, andV_t, andV_f, orV_f, orV_t, notV_b, parS_eq, parR_2, callO_v, callO_vv, callO_vvv, callO_s, callO_sv, callO_svv, slD_l, allD_1, allD_2, isN_eq, forS_eq, forR_nil, enumS_eq, enR_some, isiD_str, lkN_s, lkN_v0, lkN_vi, lkR_0, lkR_i, lkR_fl, lkR_l, lkR_ex, beq_tt, beq_tf, beq_ft, beq_ff, siS_eq, siQ_fl, siR_0, siR_2, ixD_l0, ixD_l1, ixD_l2, bitsD_i, rngS1_eq, bd_ok, bd_ex, bs_ok, bs_ex, fz_d, fz_fl, fz_ex, up_ok, up_ex, oo_ok, oo_ex, lk_v, lk_s, lks_nil, lks_cons, ret_some, ret_none, Option.bind_some, Option.map_some, List.length_cons, List.length_nil, if_true, Bool.false_eq_true, if_false, Bool.not_true, Bool.not_false, List.map_cons, List.map_nil, List.cons_append, List.nil_append, List.append_nil, Nat.reduceAdd, Nat.reduceLT, Nat.zero_add, Nat.reduceLeDiff, eq_self, true_and, and_true, h, hm, hj]
theorem i4_ok {LN : SD} {ρ : Sl} {n k : Int} {z w : Str} (h : LN ρ = .ok (.int n) ρ) (hs : binS (.int n) (.int 1) = some (.d (.int k))) (hm : binM (.str "2/4 ") (.int k) = some (.d (.str z))) (ha : binA (.str z) (.str "1") = some (.d (.str w))) : fzc (op2 binA (ooc (fzc (op2 binM (ooc (eC (.str "2/4 "))) (ooc (fzc (op2 binS (ooc LN) (ooc (eC (.int 1))))))))) (ooc (eC (.str "1")))) ρ = .ok (.str w) ρ := by
  generalize binM = BM at hm ⊢
  generalize binS = BS at hs ⊢
  generalize binA = BA at ha ⊢
  simp only [gt_0, pt_0, gt_1, gt_2, gt_3, gt_4, gt_5, gt_6, gt_7, gt_8, gt_9, pt_1, pt_2, pt_3, pt_4, pt_5, pt_6, pt_7, pt_8, pt_9, co_d, co_fl, frz_d, frz_fl, sqS_eq, sq_nx, sq_rt, sq_bk, sq_ct, sq_ex, skp_eq, rtS_eq, asS_eq, ifS_eq, exS_eq, raS_eq, fin_rt, fin_nx, fin_ex, eC_eq, oV_eq, oVr_some, eV_eq, eVr_some, eM_eq, eMr_some, op1_eq, op2_eq, opn_eq, nilA_eq, consA_eq, tst_eq, tstB_ok, ifE_eq, ifR_t, ifR_f, andT_eq, orT_eq, andR_t, andR_f, orR_f, orR_t, notT_eq, dsO_nil, dsO_cons, tupE_eq, lstE_eq, tupR_some, lstR_some, callE_eq, callR_ok, callR_ex, ar_v, ar_s, refs_nil, refs_v, refs_s, bk_nil, bk_v, bk_s, bk_e, noP_eq, soP_eq, soB_int, smE_eq, smR_str, slE_eq, binA_i, binS_i, cmpE_i, cmpE_s, cmpE_b, cmpN_i, cmpN_s, cmpN_b, cmpI_i, absD_i, maxD_i, intD_i, intD_b, negD_i, lenD_l, lenD_t, ixD_t0, ixD_t1, fzc_eq, upc_eq, ooc_eq, hide_nil, hide_cons, back_nil, back_cons, bk_v1, bk_v2, nmG_eq, yesT_eq, compE_eq, compK_ok, anyS_eq, anyR_some, srO_v, srO_vs, srO_s, srR_fl, srR_d, srR_str, cmpIn_s, cmpNin_s, cm2_eq, cmR_t, cmR_f, andE_eq, orE_eq, notE_eq, andV_t, andV_f, orV_f, orV_t, notV_b, parS_eq, parR_2, callO_v, callO_vv, callO_vvv, callO_s, callO_sv, callO_svv, slD_l, allD_1, allD_2, isN_eq, forS_eq, forR_nil, enumS_eq, enR_some, isiD_str, lkN_s, lkN_v0, lkN_vi, lkR_0, lkR_i, lkR_fl, lkR_l, lkR_ex, beq_tt, beq_tf, beq_ft, beq_ff, siS_eq, siQ_fl, siR_0, siR_2, ixD_l0, ixD_l1, ixD_l2, bitsD_i, rngS1_eq, bd_ok, bd_ex, bs_ok, bs_ex, fz_d, fz_fl, fz_ex, up_ok, up_ex, oo_ok, oo_ex, lk_v, lk_s, lks_nil, lks_cons, ret_some, ret_none, Option.bind_some, Option.map_some, List.length_cons, List.length_nil, if_true, Bool.false_eq_true, if_false, Bool.not_true, Bool.not_false, List.map_cons, List.map_nil, List.cons_append, List.nil_append, List.append_nil, Nat.reduceAdd, Nat.reduceLT, Nat.zero_add, Nat.reduceLeDiff, eq_self, true_and, and_true, h, hs, hm, ha]
theorem tx5 {T : List (List PyData)} (h : TabD T) {L xs : List PyData} (h1 : 1 ≤ L.length) (h2 : L.length ≤ 725) (hL : Txs 725 L) (hx : xs.length = 4) (o0 o2 o4 o5 o6 o7 o9 oa ob oc : Option W) : ∃ ys, src5 [o0, some (.d (.list (T.map .list))), o2, some (.d (.list L)), o4, o5, o6, o7, some (.fl xs), o9, oa, ob, oc] = .ok (xs ++ ys, []) [o0, some (.d (.list (T.map .list))), o2, some (.d (.list L)), o4, o5, o6, o7, some (.fl xs), o9, oa, ob, oc] ∧ Lns 1000 2500 ys ∧ ys.length = 4 := by
  obtain ⟨m, m1, m2, l1, l2, c⟩ := h
  obtain ⟨r, T, rfl⟩ : ∃ r T', T = r :: T' := by
    cases T with
    | nil => simp at l1
    | cons a r => exact ⟨a, r, rfl⟩
  obtain ⟨y, L', rfl⟩ : ∃ r T', L = r :: T' := by
    cases L with
    | nil => simp at h1
    | cons a r => exact ⟨a, r, rfl⟩
  obtain ⟨z, rfl, oz⟩ := hL y List.mem_cons_self
  have hr := (c r List.mem_cons_self).1
  have q1 : Ok 1 ("1" : Str) := Ok.lit "1" (by decide)
  have q2 : Ok 2 (" 1" : Str) := Ok.lit " 1" (by decide)
  have q3 : Ok 3 ("0 1" : Str) := Ok.lit "0 1" (by decide)
  have q4 : Ok 4 ("2/4 " : Str) := Ok.lit "2/4 " (by decide)
  have a1 := appS oz q2 (by omega)
  have a2 : binM (.list [.str "1"]) (.int (r.length : Int)) = _ := mulL (by omega)
  have a3 := joinD_ok (y := " ") (l := List.replicate r.length ("1" : Str)) (k := 1) (fun z hz => by rw [List.eq_of_mem_replicate hz]; exact q1.1) (by rw [List.length_replicate, show (" " : Str).length = 1 from rfl]; omega)
  rw [List.map_replicate] at a3
  have e1 : (r.length : Int) - 1 = ((r.length - 1 : Nat) : Int) := by omega
  have a4 := mulS (n := r.length - 1) q4 (by omega) (by omega)
  have a5 := appS (q4.rep (r.length - 1)) q1 (by omega)
  have ap := fun x : PyData => appL h2 (show [x].length ≤ 1 from Nat.le_refl _) (by decide)
  have aq := fun ys : List PyData => fun hy : ys.length ≤ 4 => appL (Nat.le_of_eq hx) hy (by decide)
  have o3 : Ok 20 (Str.join " " (List.replicate r.length ("1" : Str))) := by
    have := join_len " " (k := 1) (l := List.replicate r.length ("1" : Str)) fun z hz => by rw [List.eq_of_mem_replicate hz]; exact q1.1
    rw [List.length_replicate, show (" " : Str).length = 1 from rfl] at this
    exact ⟨by omega, join_ok (ok_of _) fun z hz => by rw [List.eq_of_mem_replicate hz]; exact q1.2⟩
  have tl : ∀ w, Ok 1000 w → Txs 1000 (.str z :: L' ++ [.str w]) := fun w hw => Txs.app (fun x hx => by
    obtain ⟨z, e, o⟩ := hL x hx
    exact ⟨z, e, o.le (by omega)⟩) (.cons hw .nil)
  have ll : ∀ x : PyData, (.str z :: L' ++ [x]).length ≤ 2500 := fun x => by
    rw [List.length_append, List.length_singleton]
    omega
  refine ⟨[.list (.str z :: L' ++ [.str "0 1"]), .list (.str z :: L' ++ [.str (z ++ " 1")]), .list (.str z :: L' ++ [.str (Str.join " " (List.replicate r.length ("1" : Str)))]), .list (.str z :: L' ++ [.str (repS "2/4 " ((r.length - 1 : Nat) : Int) ++ "1")])], ?_, ?_, rfl⟩
  · have g8 : gt [o0, some (.d (.list ((r :: T).map .list))), o2, some (.d (.list (.str z :: L'))), o4, o5, o6, o7, some (.fl xs), o9, oa, ob, oc] 8 = some (.fl xs) := rfl
    have g3 : gt [o0, some (.d (.list ((r :: T).map .list))), o2, some (.d (.list (.str z :: L'))), o4, o5, o6, o7, some (.fl xs), o9, oa, ob, oc] 3 = some (.d (.list (.str z :: L'))) := rfl
    have g1 : gt [o0, some (.d (.list ((r :: T).map .list))), o2, some (.d (.list (.str z :: L'))), o4, o5, o6, o7, some (.fl xs), o9, oa, ob, oc] 1 = some (.d (.list (.list r :: T.map .list))) := rfl
    have hx0 : ixD (.list (.str z :: L')) (.int 0) = some (.d (.str z)) := ixD_l0 _ _
    have hx1 : ixD (.list (.list r :: T.map .list)) (.int 0) = some (.d (.list r)) := ixD_l0 _ _
    have hlr : lenD [.list r] = some (.d (.int (r.length : Int))) := lenD_l r
    have hbs : binS (.int (r.length : Int)) (.int 1) = some (.d (.int ((r.length - 1 : Nat) : Int))) := by rw [binS_i, e1]
    have aq4 := fun a b c d => aq [a, b, c, d] (Nat.le_refl _)
    unfold src5
    generalize [o0, some (.d (.list ((r :: T).map .list))), o2, some (.d (.list (.str z :: L'))), o4, o5, o6, o7, some (.fl xs), o9, oa, ob, oc] = ρ at g1 g3 g8 ⊢
    refine src_ok g8 (it_ok g3 (eC_eq _ _) (ap _)) (it_ok g3 ?_ (ap _)) (it_ok g3 ?_ (ap _)) (it_ok g3 ?_ (ap _)) (aq4 _ _ _ _)
    · clear aq4 ap aq a2 a3 a4 a5
      generalize binA = BA at a1 ⊢
      generalize ixD = IX at hx0 ⊢
      simp only [gt_0, pt_0, gt_1, gt_2, gt_3, gt_4, gt_5, gt_6, gt_7, gt_8, gt_9, pt_1, pt_2, pt_3, pt_4, pt_5, pt_6, pt_7, pt_8, pt_9, co_d, co_fl, frz_d, frz_fl, sqS_eq, sq_nx, sq_rt, sq_bk, sq_ct, sq_ex, skp_eq, rtS_eq, asS_eq, ifS_eq, exS_eq, raS_eq, fin_rt, fin_nx, fin_ex, eC_eq, oV_eq, oVr_some, eV_eq, eVr_some, eM_eq, eMr_some, op1_eq, op2_eq, opn_eq, nilA_eq, consA_eq, tst_eq, tstB_ok, ifE_eq, ifR_t, ifR_f, andT_eq, orT_eq, andR_t, andR_f, orR_f, orR_t, notT_eq, dsO_nil, dsO_cons, tupE_eq, lstE_eq, tupR_some, lstR_some, callE_eq, callR_ok, callR_ex, ar_v, ar_s, refs_nil, refs_v, refs_s, bk_nil, bk_v, bk_s, bk_e, noP_eq, soP_eq, soB_int, smE_eq, smR_str, slE_eq, binA_i, binS_i, cmpE_i, cmpE_s, cmpE_b, cmpN_i, cmpN_s, cmpN_b, cmpI_i, absD_i, maxD_i, intD_i, intD_b, negD_i, lenD_l, lenD_t, ixD_t0, ixD_t1, fzc_eq, upc_eq, ooc_eq, hide_nil, hide_cons, back_nil, back_cons, bk_v1, bk_v2, nmG_eq, yesT_eq, compE_eq, compK_ok, anyS_eq, anyR_some, srO_v, srO_vs, srO_s, srR_fl, srR_d, srR_str, cmpIn_s, cmpNin_s, cm2_eq, cmR_t, cmR_f, andE_eq, orE_eq, notE_eq, andV_t, andV_f, orV_f, orV_t, notV_b, parS_eq, parR_2, callO_v, callO_vv, callO_vvv, callO_s, callO_sv, callO_svv, slD_l, allD_1, allD_2, isN_eq, forS_eq, forR_nil, enumS_eq, enR_some, isiD_str, lkN_s, lkN_v0, lkN_vi, lkR_0, lkR_i, lkR_fl, lkR_l, lkR_ex, beq_tt, beq_tf, beq_ft, beq_ff, siS_eq, siQ_fl, siR_0, siR_2, ixD_l0, ixD_l1, ixD_l2, bitsD_i, rngS1_eq, bd_ok, bd_ex, bs_ok, bs_ex, fz_d, fz_fl, fz_ex, up_ok, up_ex, oo_ok, oo_ex, lk_v, lk_s, lks_nil, lks_cons, ret_some, ret_none, Option.bind_some, Option.map_some, List.length_cons, List.length_nil, if_true, Bool.false_eq_true, if_false, Bool.not_true, Bool.not_false, List.map_cons, List.map_nil, List.cons_append, List.nil_append, List.append_nil, Nat.reduceAdd, Nat.reduceLT, Nat.zero_add, Nat.reduceLeDiff, eq_self, true_and, and_true, g3, hx0, a1]
    · exact i3_ok (ln_ok g1 hx1 hlr) a2 a3
    · exact i4_ok (ln_ok g1 hx1 hlr) hbs a4 a5
  · exact .cons (tl _ (q3.le (by omega))) (ll _) (.cons (tl _ ((oz.app q2).le (by omega))) (ll _) (.cons (tl _ (o3.le (by omega))) (ll _) (.cons (tl _ (((q4.rep _).app q1).le (by omega))) (ll _) .nil)))
end K85
set_option Elab.async false
set_option maxRecDepth 100000
set_option maxHeartbeats 2000000
namespace K85
open PySem PySem.Spec PyProof.Rows L2 Ev
noncomputable abbrev pkM : SE := lstE (consA (ooc (eC (.str "0"))) (consA (ooc (eC (.str "1"))) (consA (ooc (eC (.str "2"))) (consA (ooc (eC (.str "/"))) (consA (ooc (eC (.str " "))) (consA (ooc (eC (.str "\n"))) (consA (ooc (eC (.str "-"))) nilA)))))))
noncomputable abbrev pkL : List PyData := [.str "0", .str "1", .str "2", .str "/", .str " ", .str "\n", .str "-"]
theorem pkM_ok (ρ : Sl) : pkM ρ = .ok (.fl pkL) ρ := by
  unfold pkM
  simp only [gt_0, pt_0, gt_1, gt_2, gt_3, gt_4, gt_5, gt_6, gt_7, gt_8, gt_9, pt_1, pt_2, pt_3, pt_4, pt_5, pt_6, pt_7, pt_8, pt_9, co_d, co_fl, frz_d, frz_fl, sqS_eq, sq_nx, sq_rt, sq_bk, sq_ct, sq_ex, skp_eq, rtS_eq, asS_eq, ifS_eq, exS_eq, raS_eq, fin_rt, fin_nx, fin_ex, eC_eq, oV_eq, oVr_some, eV_eq, eVr_some, eM_eq, eMr_some, op1_eq, op2_eq, opn_eq, nilA_eq, consA_eq, tst_eq, tstB_ok, ifE_eq, ifR_t, ifR_f, andT_eq, orT_eq, andR_t, andR_f, orR_f, orR_t, notT_eq, dsO_nil, dsO_cons, tupE_eq, lstE_eq, tupR_some, lstR_some, callE_eq, callR_ok, callR_ex, ar_v, ar_s, refs_nil, refs_v, refs_s, bk_nil, bk_v, bk_s, bk_e, noP_eq, soP_eq, soB_int, smE_eq, smR_str, slE_eq, binA_i, binS_i, cmpE_i, cmpE_s, cmpE_b, cmpN_i, cmpN_s, cmpN_b, cmpI_i, absD_i, maxD_i, intD_i, intD_b, negD_i, lenD_l, lenD_t, ixD_t0, ixD_t1, fzc_eq, upc_eq, ooc_eq, hide_nil, hide_cons, back_nil, back_cons, bk_v1, bk_v2, nmG_eq, yesT_eq, compE_eq, compK_ok, anyS_eq, anyR_some, srO_v, srO_vs, srO_s, srR_fl, srR_d, srR_str, cmpIn_s, cmpNin_s, cm2_eq, cmR_t, cmR_f, andE_eq, orE_eq, notE_eq, andV_t, andV_f, orV_f, orV_t, notV_b, parS_eq, parR_2, callO_v, callO_vv, callO_vvv, callO_s, callO_sv, callO_svv, slD_l, allD_1, allD_2, isN_eq, forS_eq, forR_nil, enumS_eq, enR_some, isiD_str, lkN_s, lkN_v0, lkN_vi, lkR_0, lkR_i, lkR_fl, lkR_l, lkR_ex, beq_tt, beq_tf, beq_ft, beq_ff, siS_eq, siQ_fl, siR_0, siR_2, ixD_l0, ixD_l1, ixD_l2, bitsD_i, rngS1_eq, bd_ok, bd_ex, bs_ok, bs_ex, fz_d, fz_fl, fz_ex, up_ok, up_ex, oo_ok, oo_ex, lk_v, lk_s, lks_nil, lks_cons, ret_some, ret_none, Option.bind_some, Option.map_some, List.length_cons, List.length_nil, if_true, Bool.false_eq_true, if_false, Bool.not_true, Bool.not_false, List.map_cons, List.map_nil, List.cons_append, List.nil_append, List.append_nil, Nat.reduceAdd, Nat.reduceLT, Nat.zero_add, Nat.reduceLeDiff, eq_self, true_and, and_true]
theorem pkL_p : Txs 1 pkL := by
  have h := fun s : String => fun hs : (Str.ofString s).length ≤ 1 => Ok.lit s hs
  exact .cons (h "0" (by decide)) (.cons (h "1" (by decide)) (.cons (h "2" (by decide)) (.cons (h "/" (by decide)) (.cons (h " " (by decide)) (.cons (h "\n" (by decide)) (.cons (h "-" (by decide)) .nil))))))
noncomputable abbrev pkA : SD := fzc (op2 binA (ooc (fzc (op2 binA (ooc (fzc (slE (oV 2) noP (soP (eV 11))))) (ooc (fzc (callE 2 f_x_law_pick (consA (oV 0) (consA (ooc (fzc pkM)) nilA)))))))) (ooc (fzc (slE (oV 2) (soP (fzc (op2 binA (oV 11) (ooc (fzc (callE 2 f_x_law_random (consA (oV 0) (consA (ooc (eC (.int 2))) nilA)))))))) noP))))
noncomputable abbrev pkS : SS := sqS (asS 11 (callE 2 f_x_law_random (consA (oV 0) (consA (ooc (fzc (opn lenD (consA (oV 2) nilA)))) nilA)))) (sqS (exS (appE 7 pkA)) skp)
theorem app_ok {i : Nat} {s : SD} {ρ ρ1 : Sl} {acc : List PyData} {x : PyData} {w : W} (h0 : gt ρ i = some w) (hw : ∃ ys, w = .fl ys) (e : s ρ = .ok x ρ1) (h : gt ρ1 i = some (.fl acc)) (hq : acc.length < 16777216) : exS (appE i s) ρ = .nx (pt ρ1 i (some (.fl (acc ++ [x])))) := by
  obtain ⟨ys, rfl⟩ := hw
  rw [exS_eq]
  have : appE i s ρ = .ok (.d .none) (pt ρ1 i (some (.fl (acc ++ [x])))) := by
    unfold appE
    simp only [h0, e, bd_ok, h, if_pos hq]
  rw [this]
  rfl
theorem pk_ok {g : List PyData} {n : Nat} (hg : Gn g n) (hn : n ≤ 2 ^ 30) {t : Str} (ht : Ok 725 t) (h1 : 1 ≤ t.length) {acc : List PyData} (ha : acc.length ≤ 1000) (o1 o3 o4 o5 o6 o8 o9 oa ob oc : Option W) : ∃ (z : Str) (g' : List PyData) (h : Nat), pkS [some (.fl g), o1, some (.d (.str t)), o3, o4, o5, o6, some (.fl acc), o8, o9, oa, ob, oc] = .nx [some (.fl g'), o1, some (.d (.str t)), o3, o4, o5, o6, some (.fl (acc ++ [.str z])), o8, o9, oa, iD (h : Int), oc] ∧ Ok 3000000 z ∧ Gn g' (n + 3) := by
  obtain ⟨a, g1, e1, ha', q1⟩ := e_random hg (by omega) t.length h1 (by have := ht.1; omega)
  obtain ⟨x, g2, e2, hx, q2⟩ := e_pick q1 (by omega) pkL (by decide) (by decide)
  obtain ⟨b, g3, e3, hb, q3⟩ : ∃ (r : Nat) (g' : List PyData), f_x_law_random [some (.fl g2), iD 2] = .ok (.d (.int (r : Int))) [some (.fl g'), iD 2] ∧ r < 2 ∧ Gn g' (n + 1 + 1 + 1) := e_random q2 (by omega) 2 (by decide) (by decide)
  obtain ⟨y, rfl, oy⟩ := pkL_p x hx
  have hz : t.length ≤ 16777216 := Nat.le_trans ht.1 (by decide)
  have hl : lenD [.str t] = some (.d (.int (t.length : Int))) := lenD_s hz
  have sl := fun lo hi => slD_s (z := t) (lo := lo) (hi := hi) hz
  have c1 : Ok 725 (cutS t none (some (a : Int))) := ht.cut _ _
  have c2 : Ok 725 (cutS t (some ((a : Int) + (b : Int))) none) := ht.cut _ _
  have a1 := appS c1 oy (by decide)
  have a2 := appS (c1.app oy) c2 (by decide)
  have a3 := binA_i (a : Int) (b : Int)
  have hM := pkM_ok
  refine ⟨cutS t none (some (a : Int)) ++ y ++ cutS t (some ((a : Int) + (b : Int))) none, g3, a, ?_, ((c1.app oy).app c2).le (by decide), q3⟩
  have ea : asS 11 (callE 2 f_x_law_random (consA (oV 0) (consA (ooc (fzc (opn lenD (consA (oV 2) nilA)))) nilA))) [some (.fl g), o1, some (.d (.str t)), o3, o4, o5, o6, some (.fl acc), o8, o9, oa, ob, oc] = .nx [some (.fl g1), o1, some (.d (.str t)), o3, o4, o5, o6, some (.fl acc), o8, o9, oa, iD (a : Int), oc] := by
    generalize f_x_law_random = FR at e1 ⊢
    generalize lenD = LD at hl ⊢
    clear a1 a2 a3 sl hM
    simp only [gt_0, pt_0, gt_1, gt_2, gt_3, gt_4, gt_5, gt_6, gt_7, gt_8, gt_9, pt_1, pt_2, pt_3, pt_4, pt_5, pt_6, pt_7, pt_8, pt_9, co_d, co_fl, frz_d, frz_fl, sqS_eq, sq_nx, sq_rt, sq_bk, sq_ct, sq_ex, skp_eq, rtS_eq, asS_eq, ifS_eq, exS_eq, raS_eq, fin_rt, fin_nx, fin_ex, eC_eq, oV_eq, oVr_some, eV_eq, eVr_some, eM_eq, eMr_some, op1_eq, op2_eq, opn_eq, nilA_eq, consA_eq, tst_eq, tstB_ok, ifE_eq, ifR_t, ifR_f, andT_eq, orT_eq, andR_t, andR_f, orR_f, orR_t, notT_eq, dsO_nil, dsO_cons, tupE_eq, lstE_eq, tupR_some, lstR_some, callE_eq, callR_ok, callR_ex, ar_v, ar_s, refs_nil, refs_v, refs_s, bk_nil, bk_v, bk_s, bk_e, noP_eq, soP_eq, soB_int, smE_eq, smR_str, slE_eq, binA_i, binS_i, cmpE_i, cmpE_s, cmpE_b, cmpN_i, cmpN_s, cmpN_b, cmpI_i, absD_i, maxD_i, intD_i, intD_b, negD_i, lenD_l, lenD_t, ixD_t0, ixD_t1, fzc_eq, upc_eq, ooc_eq, hide_nil, hide_cons, back_nil, back_cons, bk_v1, bk_v2, nmG_eq, yesT_eq, compE_eq, compK_ok, anyS_eq, anyR_some, srO_v, srO_vs, srO_s, srR_fl, srR_d, srR_str, cmpIn_s, cmpNin_s, cm2_eq, cmR_t, cmR_f, andE_eq, orE_eq, notE_eq, andV_t, andV_f, orV_f, orV_t, notV_b, parS_eq, parR_2, callO_v, callO_vv, callO_vvv, callO_s, callO_sv, callO_svv, slD_l, allD_1, allD_2, isN_eq, forS_eq, forR_nil, enumS_eq, enR_some, isiD_str, lkN_s, lkN_v0, lkN_vi, lkR_0, lkR_i, lkR_fl, lkR_l, lkR_ex, beq_tt, beq_tf, beq_ft, beq_ff, siS_eq, siQ_fl, siR_0, siR_2, ixD_l0, ixD_l1, ixD_l2, bitsD_i, rngS1_eq, bd_ok, bd_ex, bs_ok, bs_ex, fz_d, fz_fl, fz_ex, up_ok, up_ex, oo_ok, oo_ex, lk_v, lk_s, lks_nil, lks_cons, ret_some, ret_none, Option.bind_some, Option.map_some, List.length_cons, List.length_nil, if_true, Bool.false_eq_true, if_false, Bool.not_true, Bool.not_false, List.map_cons, List.map_nil, List.cons_append, List.nil_append, List.append_nil, Nat.reduceAdd, Nat.reduceLT, Nat.zero_add, Nat.reduceLeDiff, eq_self, true_and, and_true, hl, e1]
    rfl
  have ep : pkA [some (.fl g1), o1, some (.d (.str t)), o3, o4, o5, o6, some (.fl acc), o8, o9, oa, iD (a : Int), oc] = .ok (.str (cutS t none (some (a : Int)) ++ y ++ cutS t (some ((a : Int) + (b : Int))) none)) [some (.fl g3), o1, some (.d (.str t)), o3, o4, o5, o6, some (.fl acc), o8, o9, oa, iD (a : Int), oc] := by
    unfold pkA
    generalize f_x_law_random = FR at e3 ⊢
    generalize f_x_law_pick = FP at e2 ⊢
    generalize pkL = PL at e2 hM ⊢
    generalize pkM = PM at hM ⊢
    generalize binA = BA at a1 a2 a3 ⊢
    have g11 : ∀ o0 : Option W, gt [o0, o1, some (.d (.str t)), o3, o4, o5, o6, some (.fl acc), o8, o9, oa, iD (a : Int), oc] 11 = iD (a : Int) := fun _ => rfl
    have p11 : ∀ o0 : Option W, pt [o0, o1, some (.d (.str t)), o3, o4, o5, o6, some (.fl acc), o8, o9, oa, iD (a : Int), oc] 11 (iD (a : Int)) = [o0, o1, some (.d (.str t)), o3, o4, o5, o6, some (.fl acc), o8, o9, oa, iD (a : Int), oc] := fun _ => rfl
    simp only [gt_0, pt_0, gt_1, gt_2, gt_3, gt_4, gt_5, gt_6, gt_7, gt_8, gt_9, pt_1, pt_2, pt_3, pt_4, pt_5, pt_6, pt_7, pt_8, pt_9, co_d, co_fl, frz_d, frz_fl, sqS_eq, sq_nx, sq_rt, sq_bk, sq_ct, sq_ex, skp_eq, rtS_eq, asS_eq, ifS_eq, exS_eq, raS_eq, fin_rt, fin_nx, fin_ex, eC_eq, oV_eq, oVr_some, eV_eq, eVr_some, eM_eq, eMr_some, op1_eq, op2_eq, opn_eq, nilA_eq, consA_eq, tst_eq, tstB_ok, ifE_eq, ifR_t, ifR_f, andT_eq, orT_eq, andR_t, andR_f, orR_f, orR_t, notT_eq, dsO_nil, dsO_cons, tupE_eq, lstE_eq, tupR_some, lstR_some, callE_eq, callR_ok, callR_ex, ar_v, ar_s, refs_nil, refs_v, refs_s, bk_nil, bk_v, bk_s, bk_e, noP_eq, soP_eq, soB_int, smE_eq, smR_str, slE_eq, binA_i, binS_i, cmpE_i, cmpE_s, cmpE_b, cmpN_i, cmpN_s, cmpN_b, cmpI_i, absD_i, maxD_i, intD_i, intD_b, negD_i, lenD_l, lenD_t, ixD_t0, ixD_t1, fzc_eq, upc_eq, ooc_eq, hide_nil, hide_cons, back_nil, back_cons, bk_v1, bk_v2, nmG_eq, yesT_eq, compE_eq, compK_ok, anyS_eq, anyR_some, srO_v, srO_vs, srO_s, srR_fl, srR_d, srR_str, cmpIn_s, cmpNin_s, cm2_eq, cmR_t, cmR_f, andE_eq, orE_eq, notE_eq, andV_t, andV_f, orV_f, orV_t, notV_b, parS_eq, parR_2, callO_v, callO_vv, callO_vvv, callO_s, callO_sv, callO_svv, slD_l, allD_1, allD_2, isN_eq, forS_eq, forR_nil, enumS_eq, enR_some, isiD_str, lkN_s, lkN_v0, lkN_vi, lkR_0, lkR_i, lkR_fl, lkR_l, lkR_ex, beq_tt, beq_tf, beq_ft, beq_ff, siS_eq, siQ_fl, siR_0, siR_2, ixD_l0, ixD_l1, ixD_l2, bitsD_i, rngS1_eq, bd_ok, bd_ex, bs_ok, bs_ex, fz_d, fz_fl, fz_ex, up_ok, up_ex, oo_ok, oo_ex, lk_v, lk_s, lks_nil, lks_cons, ret_some, ret_none, Option.bind_some, Option.map_some, List.length_cons, List.length_nil, if_true, Bool.false_eq_true, if_false, Bool.not_true, Bool.not_false, List.map_cons, List.map_nil, List.cons_append, List.nil_append, List.append_nil, Nat.reduceAdd, Nat.reduceLT, Nat.zero_add, Nat.reduceLeDiff, eq_self, true_and, and_true, g11, p11, sl, hM, e2, a1, e3, a2, a3]
  unfold pkS
  rw [sq_n ea, sq_n (app_ok (acc := acc) (by rfl) ⟨acc, rfl⟩ ep (by rfl) (by omega))]
  rfl
theorem pk_loop (t : Str) (ht : Ok 725 t) (h1 : 1 ≤ t.length) (o1 o3 o4 o5 o6 o8 o9 oc : Option W) : ∀ (xs : List PyData) (g : List PyData) (n : Nat) (acc : List PyData) (oa ob : Option W), Gn g n → n + 3 * xs.length ≤ 2 ^ 30 → acc.length + xs.length ≤ 1000 → Txs 3000000 acc → ∃ g' acc' oa' ob', forGo (nmG 10) pkS xs [some (.fl g), o1, some (.d (.str t)), o3, o4, o5, o6, some (.fl acc), o8, o9, oa, ob, oc] = .nx [some (.fl g'), o1, some (.d (.str t)), o3, o4, o5, o6, some (.fl acc'), o8, o9, oa', ob', oc] ∧ Txs 3000000 acc' ∧ acc'.length = acc.length + xs.length ∧ Gn g' (n + 3 * xs.length)
  | [], g, n, acc, oa, ob, hg, _, _, ha => ⟨g, acc, oa, ob, forGo_nil _ _ _, ha, rfl, hg⟩
  | x :: xs, g, n, acc, oa, ob, hg, hn, hl, ha => by
    rw [List.length_cons] at hl hn
    obtain ⟨z, g1, h, e, oz, hg1⟩ := pk_ok hg (by omega) ht h1 (acc := acc) (by omega) o1 o3 o4 o5 o6 o8 o9 (some (.d x)) ob oc
    obtain ⟨g', acc', oa', ob', e2, t2, l2, hg2⟩ := pk_loop t ht h1 o1 o3 o4 o5 o6 o8 o9 oc xs g1 (n + 3) (acc ++ [.str z]) (some (.d x)) (iD (h : Int)) hg1 (by omega) (by rw [List.length_append, List.length_singleton]; omega) (ha.app (.cons oz .nil))
    refine ⟨g', acc', oa', ob', ?_, t2, by rw [l2, List.length_append, List.length_singleton, List.length_cons]; omega, by rw [List.length_cons, show n + 3 * (xs.length + 1) = n + 3 + 3 * xs.length by omega]; exact hg2⟩
    have tg : nmG 10 x [some (.fl g), o1, some (.d (.str t)), o3, o4, o5, o6, some (.fl acc), o8, o9, oa, ob, oc] = some [some (.fl g), o1, some (.d (.str t)), o3, o4, o5, o6, some (.fl acc), o8, o9, some (.d x), ob, oc] := rfl
    rw [forGo_nx tg e]
    exact e2
theorem forS_ok {tg : ST'} {src : SI} {b : SS} {ρ ρ1 : Sl} {xs : List PyData} {r : SR} (h : src ρ = .ok (xs, []) ρ1) (e : forGo tg b xs ρ1 = r) : forS tg src b ρ = r := by
  rw [forS_eq, h]
  exact e
theorem Gn.le {g : List PyData} {a b : Nat} (h : Gn g a) (hb : a ≤ b) : Gn g b := by
  obtain ⟨x, y, k, e, p, q⟩ := h
  exact ⟨x, y, k, e, p, by omega⟩
theorem lns_txs {T : List (List PyData)} (h : TabD T) : 1 ≤ ((lnE (tbT T)).map PyData.str).length ∧ ((lnE (tbT T)).map PyData.str).length ≤ 725 ∧ Txs 725 ((lnE (tbT T)).map PyData.str) := by
  obtain ⟨l1, l2, l3⟩ := lnE_p h
  refine ⟨by rw [List.length_map]; exact l1, by rw [List.length_map]; exact l2, fun x hx => ?_⟩
  obtain ⟨z, hz, rfl⟩ := List.mem_map.1 hx
  exact ⟨z, rfl, l3 z hz⟩
theorem Txs.le {j k : Nat} {xs : List PyData} (h : Txs j xs) (hk : j ≤ k) : Txs k xs := fun x hx => by
  obtain ⟨z, e, o⟩ := h x hx
  exact ⟨z, e, o.le hk⟩
theorem Lns.le {j k m l : Nat} {xs : List PyData} (h : Lns j m xs) (hk : j ≤ k) (hm : m ≤ l) : Lns k l xs := fun x hx => by
  obtain ⟨ys, e, hl, t⟩ := h x hx
  exact ⟨ys, e, Nat.le_trans hl hm, t.le hk⟩
theorem Lns.app {k m : Nat} {xs ys : List PyData} (h : Lns k m xs) (h' : Lns k m ys) : Lns k m (xs ++ ys) := fun x hx => (List.mem_append.1 hx).elim (h x) (h' x)
theorem tx_s : s_x_law_texts = sqS (parS [2, 3] (consA (ooc (fzc (callE 1 f_x_law_text (consA (ooc (eV 1)) nilA)))) (consA (ooc (fzc (slE (ooc (fzc (smE splitD (ooc (fzc (callE 1 f_x_law_text (consA (ooc (eV 1)) nilA)))) (ooc (eC (.str "\n")))))) noP (soP (fzc (op1 negD (ooc (eC (.int 1))))))))) nilA)))
    (sqS (parS [4, 5, 6] (consA (ooc (fzc (callE 2 f_x_law_random (consA (oV 0) (consA (ooc (fzc (opn lenD (consA (oV 3) nilA)))) nilA))))) (consA (ooc (fzc (callE 2 f_x_law_random (consA (oV 0) (consA (ooc (fzc (opn lenD (consA (oV 3) nilA)))) nilA))))) (consA (ooc (fzc (callE 2 f_x_law_random (consA (oV 0) (consA (ooc (fzc (op2 binA (ooc (fzc (opn lenD (consA (oV 2) nilA)))) (ooc (eC (.int 1)))))) nilA))))) nilA))))
    (sqS (asS 7 (lstE (consA (ooc (eV 2)) (consA (ooc (fzc (op2 binA (oV 2) (ooc (eC (.str "\n")))))) (consA (ooc (fzc (slE (oV 2) noP (soP (fzc (op1 negD (ooc (eC (.int 1))))))))) (consA (ooc (eC (.str ""))) (consA (ooc (eC (.str "\n"))) (consA (ooc (fzc (op2 binA (ooc (eC (.str " "))) (oV 2)))) (consA (ooc (fzc (op2 binA (oV 2) (oV 2)))) (consA (ooc (fzc (op2 binM (oV 2) (ooc (eC (.int 5)))))) (consA (ooc (fzc (slE (oV 2) noP (soP (eV 6))))) (consA (ooc (fzc (slE (oV 2) (soP (eV 6)) noP))) nilA))))))))))))
    (sqS (asS 8 (lstE (consA (ooc (fzc (op2 binA (ooc (fzc (slE (oV 3) noP (soP (eV 4))))) (ooc (fzc (slE (oV 3) (soP (fzc (op2 binA (oV 4) (ooc (eC (.int 1)))))) noP)))))) (consA (ooc (fzc (op2 binA (ooc (fzc (op2 binA (ooc (fzc (slE (oV 3) noP (soP (eV 4))))) (ooc (fzc (slE (oV 3) (soP (eV 4)) (soP (fzc (op2 binA (oV 4) (ooc (eC (.int 1)))))))))))) (ooc (fzc (slE (oV 3) (soP (eV 4)) noP)))))) (consA (ooc (fzc (revE (oV 3)))) (consA (ooc (fzc (op2 binA (ooc (fzc (op2 binA (ooc (fzc (slE (oV 3) noP (soP (eV 4))))) (ooc (fzc (lstE (consA (ooc (fzc (op2 ixD (oV 3) (oV 5)))) nilA))))))) (ooc (fzc (slE (oV 3) (soP (fzc (op2 binA (oV 4) (ooc (eC (.int 1)))))) noP)))))) nilA))))))
    (sqS (forS (nmG 9) src5 jnS)
    (sqS (forS (nmG 10) (rngS1 (eC (.int 5))) pkS)
    (sqS (rtS (eM 7))
    skp)))))) := rfl
theorem e_law_texts {g : List PyData} {n : Nat} (hg : Gn g n) (hn : n ≤ 2 ^ 29) {T : List (List PyData)} (h : TabD T) : ∃ xs g', f_x_law_texts [some (.fl g), some (.d (.list (T.map .list)))] = .ok (.fl xs) [some (.fl g'), some (.d (.list (T.map .list)))] ∧ Txs 3000000 xs ∧ xs.length ≤ 1000 ∧ Gn g' (n + 100) := by
  rw [show f_x_law_texts [some (.fl g), some (.d (.list (T.map .list)))] = finR 2 [2, 3, 4, 5, 6, 7, 8, 9, 10, 11] (s_x_law_texts [some (.fl g), some (.d (.list (T.map .list))), none, none, none, none, none, none, none, none, none, none, none]) from bodyR_eq ..]
  rw [tx_s]
  have ht : Ok 725 (tbT T) := tbT_p h
  obtain ⟨l1, l2, l3⟩ := lns_txs h
  obtain ⟨a, b, c, g1, e2, ha, hb, hc, hg1⟩ := tx2 hg (by omega) l1 l2 ht.1 (some (.d (.list (T.map .list)))) none none none none none none
  obtain ⟨xs, e3, t3, n3⟩ := tx3 ht c (some (.fl g1)) (some (.d (.list (T.map .list)))) (some (.d (.list ((lnE (tbT T)).map .str)))) (iD (a : Int)) (iD (b : Int)) none none none none none none
  obtain ⟨ys, e4, t4, n4⟩ := tx4 l3 l2 (a := a) (b := b) hb (some (.fl g1)) (some (.d (.list (T.map .list)))) (some (.d (.str (tbT T)))) (iD (c : Int)) (some (.fl xs)) none none none none none
  obtain ⟨zs, e5, t5, n5⟩ := tx5 h l1 l2 l3 n4 (some (.fl g1)) (some (.d (.str (tbT T)))) (iD (a : Int)) (iD (b : Int)) (iD (c : Int)) (some (.fl xs)) none none none none
  obtain ⟨acc, o9, e6, t6, n6⟩ := jn_loop (some (.fl g1)) (some (.d (.list (T.map .list)))) (some (.d (.str (tbT T)))) (some (.d (.list ((lnE (tbT T)).map .str)))) (iD (a : Int)) (iD (b : Int)) (iD (c : Int)) (some (.fl ys)) none none (ys ++ zs) xs none ((t4.le (by decide) (by decide)).app t5) (by rw [List.length_append]; omega) (t3.le (by decide))
  obtain ⟨g2, acc2, oa, ob, e7, t7, n7, hg2⟩ := pk_loop (tbT T) ht (tbT_nl h).2 (some (.d (.list (T.map .list)))) (some (.d (.list ((lnE (tbT T)).map .str)))) (iD (a : Int)) (iD (b : Int)) (iD (c : Int)) (some (.fl ys)) o9 none (rangeD 0 5) g1 (n + 3) acc none none hg1 (by simp [rangeD] <;> omega) (by rw [n6, n3, List.length_append, n4, n5]; simp [rangeD]) t6
  have r5 : rngS1 (eC (.int 5)) [some (.fl g1), some (.d (.list (T.map .list))), some (.d (.str (tbT T))), some (.d (.list ((lnE (tbT T)).map .str))), iD (a : Int), iD (b : Int), iD (c : Int), some (.fl acc), some (.fl ys), o9, none, none, none] = .ok (rangeD 0 5, []) [some (.fl g1), some (.d (.list (T.map .list))), some (.d (.str (tbT T))), some (.d (.list ((lnE (tbT T)).map .str))), iD (a : Int), iD (b : Int), iD (c : Int), some (.fl acc), some (.fl ys), o9, none, none, none] := by
    rw [rngS1_eq, eC_eq, bd_ok]
    exact rgR_ok _ 5 (by decide)
  refine ⟨acc2, g2, ?_, t7, by rw [n7, n6, n3, List.length_append, n4, n5]; simp [rangeD], hg2.le (by simp [rangeD] <;> omega)⟩
  rw [sq_n (tx1 h (some (.fl g)) none none none none none none none none none), sq_n e2, sq_n e3, sq_n e4, sq_n (forS_ok e5 e6), sq_n (forS_ok r5 e7)]
  rfl
end K85
set_option Elab.async false
set_option maxRecDepth 100000
set_option maxHeartbeats 2000000
namespace K85
open PySem PySem.Spec PyProof.Rows L2 Ev
theorem textFrom_le {b : Nat} : ∀ (ts : List Str) (k : Nat) (acc : Str), (∀ t ∈ ts, t.length ≤ b) → (textFrom k acc ts).length ≤ acc.length + ts.length * (b + 2)
  | [], k, acc, _ => by show acc.length ≤ _; omega
  | t :: r, k, acc, h => by
    have h1 := h t List.mem_cons_self
    have h2 := textFrom_le r (k + 1) (acc ++ (if k > 0 then ", " else "" : String) ++ t) fun s hs => h s (List.mem_cons_of_mem _ hs)
    show (textFrom (k + 1) (acc ++ (if k > 0 then ", " else "" : String) ++ t) r).length ≤ _
    have h3 : (Str.ofString (if k > 0 then ", " else "" : String)).length ≤ 2 := by split <;> decide
    rw [Str.length_append, Str.length_append] at h2
    rw [List.length_cons, Nat.succ_mul]
    omega
theorem listText_le {b : Nat} {ts : List Str} (h : ∀ t ∈ ts, t.length ≤ b) : (listText ts).length ≤ 2 + ts.length * (b + 2) := by
  unfold listText
  have := textFrom_le ts 0 "[" h
  have e1 : ("[" : Str).length = 1 := rfl
  have e2 : ("]" : Str).length = 1 := rfl
  rw [Str.length_append, e2]
  rw [e1] at this
  omega
def small : Option Nat → Prop
  | some n => n < 10 ^ 9
  | none => True
theorem optD_p {o : Option Nat} (h : small o) : (optD o).showable = true ∧ (optD o).hasDict = false ∧ (optD o).depth ≤ 1 ∧ (optD o).shown.length ≤ 20 := by
  cases o with
  | none =>
    refine ⟨rfl, rfl, by simp [optD, PyData.depth], ?_⟩
    show (Str.ofString "None").length ≤ 20
    decide
  | some n =>
    have hn : ((n : Int)).natAbs < 10 ^ 10 := by have : n < 10 ^ 9 := h; omega
    refine ⟨?_, rfl, by simp [optD, PyData.depth], ?_⟩
    · show (PyData.int (n : Int)).showable = true
      simp only [PyData.showable]
      exact decide_eq_true (log_small hn)
    · have h1 := len_small hn
      show (Str.ofString (toString (n : Int))).length ≤ 20
      omega
theorem rep2 {o : Option Nat} (h : small o) : ∃ S, repD [.list [optD o, optD o]] = some (.d (.str S)) := by
  obtain ⟨h1, h2, h3, h4⟩ := optD_p h
  refine ⟨PyData.shown (.list [optD o, optD o]), ?_⟩
  have a1 : (PyData.list [optD o, optD o]).showable = true := by simp only [PyData.showable, PyData.showableAll, h1]; rfl
  have a2 : (PyData.list [optD o, optD o]).hasDict = false := by simp only [PyData.hasDict, PyData.hasDictAll, h2]; rfl
  have a3 : (PyData.list [optD o, optD o]).depth ≤ 60 := by
    simp only [PyData.depth]
    have := dep_all (n := 1) (xs := [optD o, optD o]) (fun x hx => by
      simp only [List.mem_cons, List.not_mem_nil, or_false, or_self] at hx
      rw [hx]; exact h3)
    omega
  have a4 : (PyData.list [optD o, optD o]).shown.length ≤ 16777216 := by
    simp only [PyData.shown, PyData.shownAll]
    have := listText_le (b := 20) (ts := [(optD o).shown, (optD o).shown]) (fun x hx => by
      simp only [List.mem_cons, List.not_mem_nil, or_false, or_self] at hx
      rw [hx]; exact h4)
    simp only [List.length_cons, List.length_nil] at this
    omega
  unfold repD
  simp only [a1, a2, a3, a4]
  rfl
theorem wi_lt : ∀ (zs : List Str) (k w n : Nat), wi zs k w = some n → n < k + zs.length
  | [], _, _, _, h => nomatch h
  | z :: zs, k, w, n, h => by
    unfold wi at h
    rw [List.length_cons]
    split at h
    · cases h; omega
    · have := wi_lt zs _ _ _ h; omega
theorem wb_small {z : Str} (h : z.length ≤ 3000000) : small (wb z) := by
  have hk := cnt_split (z := z) (y := "\n") (by decide)
  have hl : (lns z).length ≤ z.length + 1 := hk
  unfold wb
  cases e : wi (lns z).dropLast 0 0 with
  | some n =>
    have := wi_lt _ _ _ _ e
    rw [List.length_dropLast] at this
    show n < 10 ^ 9
    omega
  | none =>
    simp only
    split
    · show (lns z).length - 1 < 10 ^ 9
      omega
    · trivial
theorem callK1 {Φ : SE} {k : Str} {s : SO} {ρ : Sl} {x : PyData} (h : s ρ = .ok (.v x) ρ) : callK 1 Φ ⟨0, [k], [0], []⟩ nilA (consA s nilA) ρ = callR [.v x] ρ (Φ [some (.d x)]) := by
  unfold callK
  simp only [nilA_eq, bd_ok, consA_eq, h]
  exact callO_v Φ ρ x
noncomputable abbrev rpS : ST := tst (op2 cmpN (ooc (fzc (opn repD (consA (ooc (fzc (lstE (consA (ooc (fzc (callE 1 f_wrong_line (consA (ooc (eV 3)) nilA)))) (consA (ooc (fzc (callK 1 f_wrong_line ⟨0, ["text"], [0], []⟩ nilA (consA (ooc (eV 3)) nilA)))) nilA))))) nilA)))) (ooc (fzc (opn repD (consA (ooc (fzc (lstE (consA (ooc (eV 4)) (consA (ooc (eV 4)) nilA))))) nilA)))))
noncomputable abbrev inS : SS := sqS (parS [4, 5] (consA (ooc (fzc (callE 1 f_x_law_wrong (consA (ooc (eV 3)) nilA)))) (consA (ooc (eC .none)) nilA)))
    (sqS (ifS rpS (sqS (rtS (upc (eC (.bool false)))) skp) skp)
    (sqS (trS xn xsub (sqS (exS (callE 1 f_read_table (consA (ooc (eV 3)) nilA))) skp) 0 6 5)
    (sqS (ifS (tst (op2 cmpN (ooc (fzc (isN true (oV 5)))) (ooc (fzc (isN true (oV 4)))))) (sqS (rtS (upc (eC (.bool false)))) skp) skp) skp)))
theorem in_ok {z : Str} (oz : Ok 3000000 z) (o0 o1 o2 o4 o5 : Option W) : ∃ c, inS [o0, o1, o2, some (.d (.str z)), o4, o5, none] = .nx [o0, o1, o2, some (.d (.str z)), some (.d (optD (wb z))), c, none] := by
  have hz : z.length ≤ B0 := Nat.le_trans oz.1 (by decide)
  obtain ⟨ρ1, e1⟩ := e_law_wrong z hz oz.2
  obtain ⟨ρ2, e2⟩ := e_wrong_line z hz
  obtain ⟨r1, r2⟩ := e_read_table z hz
  obtain ⟨S, e3⟩ := rep2 (wb_small oz.1)
  have s1 : ∀ o4 o5 : Option W, parS [4, 5] (consA (ooc (fzc (callE 1 f_x_law_wrong (consA (ooc (eV 3)) nilA)))) (consA (ooc (eC .none)) nilA)) [o0, o1, o2, some (.d (.str z)), o4, o5, none] = .nx [o0, o1, o2, some (.d (.str z)), some (.d (optD (wb z))), some (.d .none), none] := fun o4 o5 => by
    generalize f_x_law_wrong = FW at e1 ⊢
    generalize optD (wb z) = D at e1 ⊢
    simp only [gt_0, pt_0, gt_1, gt_2, gt_3, gt_4, gt_5, gt_6, gt_7, gt_8, gt_9, pt_1, pt_2, pt_3, pt_4, pt_5, pt_6, pt_7, pt_8, pt_9, co_d, co_fl, frz_d, frz_fl, sqS_eq, sq_nx, sq_rt, sq_bk, sq_ct, sq_ex, skp_eq, rtS_eq, asS_eq, ifS_eq, exS_eq, raS_eq, fin_rt, fin_nx, fin_ex, eC_eq, oV_eq, oVr_some, eV_eq, eVr_some, eM_eq, eMr_some, op1_eq, op2_eq, opn_eq, nilA_eq, consA_eq, tst_eq, tstB_ok, ifE_eq, ifR_t, ifR_f, andT_eq, orT_eq, andR_t, andR_f, orR_f, orR_t, notT_eq, dsO_nil, dsO_cons, tupE_eq, lstE_eq, tupR_some, lstR_some, callE_eq, callR_ok, callR_ex, ar_v, ar_s, refs_nil, refs_v, refs_s, bk_nil, bk_v, bk_s, bk_e, noP_eq, soP_eq, soB_int, smE_eq, smR_str, slE_eq, binA_i, binS_i, cmpE_i, cmpE_s, cmpE_b, cmpN_i, cmpN_s, cmpN_b, cmpI_i, absD_i, maxD_i, intD_i, intD_b, negD_i, lenD_l, lenD_t, ixD_t0, ixD_t1, fzc_eq, upc_eq, ooc_eq, hide_nil, hide_cons, back_nil, back_cons, bk_v1, bk_v2, nmG_eq, yesT_eq, compE_eq, compK_ok, anyS_eq, anyR_some, srO_v, srO_vs, srO_s, srR_fl, srR_d, srR_str, cmpIn_s, cmpNin_s, cm2_eq, cmR_t, cmR_f, andE_eq, orE_eq, notE_eq, andV_t, andV_f, orV_f, orV_t, notV_b, parS_eq, parR_2, callO_v, callO_vv, callO_vvv, callO_s, callO_sv, callO_svv, slD_l, allD_1, allD_2, isN_eq, forS_eq, forR_nil, enumS_eq, enR_some, isiD_str, lkN_s, lkN_v0, lkN_vi, lkR_0, lkR_i, lkR_fl, lkR_l, lkR_ex, beq_tt, beq_tf, beq_ft, beq_ff, siS_eq, siQ_fl, siR_0, siR_2, ixD_l0, ixD_l1, ixD_l2, bitsD_i, rngS1_eq, bd_ok, bd_ex, bs_ok, bs_ex, fz_d, fz_fl, fz_ex, up_ok, up_ex, oo_ok, oo_ex, lk_v, lk_s, lks_nil, lks_cons, ret_some, ret_none, Option.bind_some, Option.map_some, List.length_cons, List.length_nil, if_true, Bool.false_eq_true, if_false, Bool.not_true, Bool.not_false, List.map_cons, List.map_nil, List.cons_append, List.nil_append, List.append_nil, Nat.reduceAdd, Nat.reduceLT, Nat.zero_add, Nat.reduceLeDiff, eq_self, true_and, and_true, e1]
  have s2 : rpS [o0, o1, o2, some (.d (.str z)), some (.d (optD (wb z))), some (.d .none), none] = .ok false [o0, o1, o2, some (.d (.str z)), some (.d (optD (wb z))), some (.d .none), none] := by
    unfold rpS
    generalize hρ : [o0, o1, o2, some (.d (.str z)), some (.d (optD (wb z))), some (.d .none), none] = ρ
    have g3 : eV 3 ρ = .ok (.str z) ρ := by rw [← hρ]; simp only [gt_0, pt_0, gt_1, gt_2, gt_3, gt_4, gt_5, gt_6, gt_7, gt_8, gt_9, pt_1, pt_2, pt_3, pt_4, pt_5, pt_6, pt_7, pt_8, pt_9, co_d, co_fl, frz_d, frz_fl, sqS_eq, sq_nx, sq_rt, sq_bk, sq_ct, sq_ex, skp_eq, rtS_eq, asS_eq, ifS_eq, exS_eq, raS_eq, fin_rt, fin_nx, fin_ex, eC_eq, oV_eq, oVr_some, eV_eq, eVr_some, eM_eq, eMr_some, op1_eq, op2_eq, opn_eq, nilA_eq, consA_eq, tst_eq, tstB_ok, ifE_eq, ifR_t, ifR_f, andT_eq, orT_eq, andR_t, andR_f, orR_f, orR_t, notT_eq, dsO_nil, dsO_cons, tupE_eq, lstE_eq, tupR_some, lstR_some, callE_eq, callR_ok, callR_ex, ar_v, ar_s, refs_nil, refs_v, refs_s, bk_nil, bk_v, bk_s, bk_e, noP_eq, soP_eq, soB_int, smE_eq, smR_str, slE_eq, binA_i, binS_i, cmpE_i, cmpE_s, cmpE_b, cmpN_i, cmpN_s, cmpN_b, cmpI_i, absD_i, maxD_i, intD_i, intD_b, negD_i, lenD_l, lenD_t, ixD_t0, ixD_t1, fzc_eq, upc_eq, ooc_eq, hide_nil, hide_cons, back_nil, back_cons, bk_v1, bk_v2, nmG_eq, yesT_eq, compE_eq, compK_ok, anyS_eq, anyR_some, srO_v, srO_vs, srO_s, srR_fl, srR_d, srR_str, cmpIn_s, cmpNin_s, cm2_eq, cmR_t, cmR_f, andE_eq, orE_eq, notE_eq, andV_t, andV_f, orV_f, orV_t, notV_b, parS_eq, parR_2, callO_v, callO_vv, callO_vvv, callO_s, callO_sv, callO_svv, slD_l, allD_1, allD_2, isN_eq, forS_eq, forR_nil, enumS_eq, enR_some, isiD_str, lkN_s, lkN_v0, lkN_vi, lkR_0, lkR_i, lkR_fl, lkR_l, lkR_ex, beq_tt, beq_tf, beq_ft, beq_ff, siS_eq, siQ_fl, siR_0, siR_2, ixD_l0, ixD_l1, ixD_l2, bitsD_i, rngS1_eq, bd_ok, bd_ex, bs_ok, bs_ex, fz_d, fz_fl, fz_ex, up_ok, up_ex, oo_ok, oo_ex, lk_v, lk_s, lks_nil, lks_cons, ret_some, ret_none, Option.bind_some, Option.map_some, List.length_cons, List.length_nil, if_true, Bool.false_eq_true, if_false, Bool.not_true, Bool.not_false, List.map_cons, List.map_nil, List.cons_append, List.nil_append, List.append_nil, Nat.reduceAdd, Nat.reduceLT, Nat.zero_add, Nat.reduceLeDiff, eq_self, true_and, and_true]
    have g4 : eV 4 ρ = .ok (optD (wb z)) ρ := by rw [← hρ]; simp only [gt_0, pt_0, gt_1, gt_2, gt_3, gt_4, gt_5, gt_6, gt_7, gt_8, gt_9, pt_1, pt_2, pt_3, pt_4, pt_5, pt_6, pt_7, pt_8, pt_9, co_d, co_fl, frz_d, frz_fl, sqS_eq, sq_nx, sq_rt, sq_bk, sq_ct, sq_ex, skp_eq, rtS_eq, asS_eq, ifS_eq, exS_eq, raS_eq, fin_rt, fin_nx, fin_ex, eC_eq, oV_eq, oVr_some, eV_eq, eVr_some, eM_eq, eMr_some, op1_eq, op2_eq, opn_eq, nilA_eq, consA_eq, tst_eq, tstB_ok, ifE_eq, ifR_t, ifR_f, andT_eq, orT_eq, andR_t, andR_f, orR_f, orR_t, notT_eq, dsO_nil, dsO_cons, tupE_eq, lstE_eq, tupR_some, lstR_some, callE_eq, callR_ok, callR_ex, ar_v, ar_s, refs_nil, refs_v, refs_s, bk_nil, bk_v, bk_s, bk_e, noP_eq, soP_eq, soB_int, smE_eq, smR_str, slE_eq, binA_i, binS_i, cmpE_i, cmpE_s, cmpE_b, cmpN_i, cmpN_s, cmpN_b, cmpI_i, absD_i, maxD_i, intD_i, intD_b, negD_i, lenD_l, lenD_t, ixD_t0, ixD_t1, fzc_eq, upc_eq, ooc_eq, hide_nil, hide_cons, back_nil, back_cons, bk_v1, bk_v2, nmG_eq, yesT_eq, compE_eq, compK_ok, anyS_eq, anyR_some, srO_v, srO_vs, srO_s, srR_fl, srR_d, srR_str, cmpIn_s, cmpNin_s, cm2_eq, cmR_t, cmR_f, andE_eq, orE_eq, notE_eq, andV_t, andV_f, orV_f, orV_t, notV_b, parS_eq, parR_2, callO_v, callO_vv, callO_vvv, callO_s, callO_sv, callO_svv, slD_l, allD_1, allD_2, isN_eq, forS_eq, forR_nil, enumS_eq, enR_some, isiD_str, lkN_s, lkN_v0, lkN_vi, lkR_0, lkR_i, lkR_fl, lkR_l, lkR_ex, beq_tt, beq_tf, beq_ft, beq_ff, siS_eq, siQ_fl, siR_0, siR_2, ixD_l0, ixD_l1, ixD_l2, bitsD_i, rngS1_eq, bd_ok, bd_ex, bs_ok, bs_ex, fz_d, fz_fl, fz_ex, up_ok, up_ex, oo_ok, oo_ex, lk_v, lk_s, lks_nil, lks_cons, ret_some, ret_none, Option.bind_some, Option.map_some, List.length_cons, List.length_nil, if_true, Bool.false_eq_true, if_false, Bool.not_true, Bool.not_false, List.map_cons, List.map_nil, List.cons_append, List.nil_append, List.append_nil, Nat.reduceAdd, Nat.reduceLT, Nat.zero_add, Nat.reduceLeDiff, eq_self, true_and, and_true]
    clear hρ
    have ck : callK 1 f_wrong_line ⟨0, ["text"], [0], []⟩ nilA (consA (ooc (eV 3)) nilA) ρ = .ok (.d (optD (wb z))) ρ := by
      rw [callK1 (x := .str z) (by show oo (eV 3 ρ) = _; rw [g3]; rfl), e2, callR_ok, bk_v1]
    generalize optD (wb z) = D at e2 e3 g4 ck ⊢
    generalize callK 1 f_wrong_line ⟨0, ["text"], [0], []⟩ nilA (consA (ooc (eV 3)) nilA) = CK at ck ⊢
    generalize f_wrong_line = FW at e2 ⊢
    generalize repD = RD at e3 ⊢
    have b1 : (S == S) = true := by simp
    have x1 : cmpN (.str S) (.str S) = some (.d (.bool false)) := by rw [cmpN_s, b1]; rfl
    generalize cmpN = CN at x1 ⊢
    generalize eV 3 = E3 at g3 ⊢
    generalize eV 4 = E4 at g4 ⊢
    simp only [gt_0, pt_0, gt_1, gt_2, gt_3, gt_4, gt_5, gt_6, gt_7, gt_8, gt_9, pt_1, pt_2, pt_3, pt_4, pt_5, pt_6, pt_7, pt_8, pt_9, co_d, co_fl, frz_d, frz_fl, sqS_eq, sq_nx, sq_rt, sq_bk, sq_ct, sq_ex, skp_eq, rtS_eq, asS_eq, ifS_eq, exS_eq, raS_eq, fin_rt, fin_nx, fin_ex, eC_eq, oV_eq, oVr_some, eV_eq, eVr_some, eM_eq, eMr_some, op1_eq, op2_eq, opn_eq, nilA_eq, consA_eq, tst_eq, tstB_ok, ifE_eq, ifR_t, ifR_f, andT_eq, orT_eq, andR_t, andR_f, orR_f, orR_t, notT_eq, dsO_nil, dsO_cons, tupE_eq, lstE_eq, tupR_some, lstR_some, callE_eq, callR_ok, callR_ex, ar_v, ar_s, refs_nil, refs_v, refs_s, bk_nil, bk_v, bk_s, bk_e, noP_eq, soP_eq, soB_int, smE_eq, smR_str, slE_eq, binA_i, binS_i, cmpE_i, cmpE_s, cmpE_b, cmpN_i, cmpN_s, cmpN_b, cmpI_i, absD_i, maxD_i, intD_i, intD_b, negD_i, lenD_l, lenD_t, ixD_t0, ixD_t1, fzc_eq, upc_eq, ooc_eq, hide_nil, hide_cons, back_nil, back_cons, bk_v1, bk_v2, nmG_eq, yesT_eq, compE_eq, compK_ok, anyS_eq, anyR_some, srO_v, srO_vs, srO_s, srR_fl, srR_d, srR_str, cmpIn_s, cmpNin_s, cm2_eq, cmR_t, cmR_f, andE_eq, orE_eq, notE_eq, andV_t, andV_f, orV_f, orV_t, notV_b, parS_eq, parR_2, callO_v, callO_vv, callO_vvv, callO_s, callO_sv, callO_svv, slD_l, allD_1, allD_2, isN_eq, forS_eq, forR_nil, enumS_eq, enR_some, isiD_str, lkN_s, lkN_v0, lkN_vi, lkR_0, lkR_i, lkR_fl, lkR_l, lkR_ex, beq_tt, beq_tf, beq_ft, beq_ff, siS_eq, siQ_fl, siR_0, siR_2, ixD_l0, ixD_l1, ixD_l2, bitsD_i, rngS1_eq, bd_ok, bd_ex, bs_ok, bs_ex, fz_d, fz_fl, fz_ex, up_ok, up_ex, oo_ok, oo_ex, lk_v, lk_s, lks_nil, lks_cons, ret_some, ret_none, Option.bind_some, Option.map_some, List.length_cons, List.length_nil, if_true, Bool.false_eq_true, if_false, Bool.not_true, Bool.not_false, List.map_cons, List.map_nil, List.cons_append, List.nil_append, List.append_nil, Nat.reduceAdd, Nat.reduceLT, Nat.zero_add, Nat.reduceLeDiff, eq_self, true_and, and_true, g3, g4, e2, ck, e3, x1]
  have s3 : ∃ w, trS xn xsub (sqS (exS (callE 1 f_read_table (consA (ooc (eV 3)) nilA))) skp) 0 6 5 [o0, o1, o2, some (.d (.str z)), some (.d (optD (wb z))), some (.d .none), none] = .nx [o0, o1, o2, some (.d (.str z)), some (.d (optD (wb z))), some w, none] ∧ lkR (some w) = lkR (some (.d (optD (wb z)))) := by
    cases hw : wb z with
    | none =>
      obtain ⟨w, ρ, e⟩ := r1 hw
      refine ⟨.d .none, ?_, rfl⟩
      generalize f_read_table = FT at e ⊢
      have : sqS (exS (callE 1 FT (consA (ooc (eV 3)) nilA))) skp [o0, o1, o2, some (.d (.str z)), some (.d (optD none)), some (.d .none), none] = .nx [o0, o1, o2, some (.d (.str z)), some (.d (optD none)), some (.d .none), none] := by
        simp only [gt_0, pt_0, gt_1, gt_2, gt_3, gt_4, gt_5, gt_6, gt_7, gt_8, gt_9, pt_1, pt_2, pt_3, pt_4, pt_5, pt_6, pt_7, pt_8, pt_9, co_d, co_fl, frz_d, frz_fl, sqS_eq, sq_nx, sq_rt, sq_bk, sq_ct, sq_ex, skp_eq, rtS_eq, asS_eq, ifS_eq, exS_eq, raS_eq, fin_rt, fin_nx, fin_ex, eC_eq, oV_eq, oVr_some, eV_eq, eVr_some, eM_eq, eMr_some, op1_eq, op2_eq, opn_eq, nilA_eq, consA_eq, tst_eq, tstB_ok, ifE_eq, ifR_t, ifR_f, andT_eq, orT_eq, andR_t, andR_f, orR_f, orR_t, notT_eq, dsO_nil, dsO_cons, tupE_eq, lstE_eq, tupR_some, lstR_some, callE_eq, callR_ok, callR_ex, ar_v, ar_s, refs_nil, refs_v, refs_s, bk_nil, bk_v, bk_s, bk_e, noP_eq, soP_eq, soB_int, smE_eq, smR_str, slE_eq, binA_i, binS_i, cmpE_i, cmpE_s, cmpE_b, cmpN_i, cmpN_s, cmpN_b, cmpI_i, absD_i, maxD_i, intD_i, intD_b, negD_i, lenD_l, lenD_t, ixD_t0, ixD_t1, fzc_eq, upc_eq, ooc_eq, hide_nil, hide_cons, back_nil, back_cons, bk_v1, bk_v2, nmG_eq, yesT_eq, compE_eq, compK_ok, anyS_eq, anyR_some, srO_v, srO_vs, srO_s, srR_fl, srR_d, srR_str, cmpIn_s, cmpNin_s, cm2_eq, cmR_t, cmR_f, andE_eq, orE_eq, notE_eq, andV_t, andV_f, orV_f, orV_t, notV_b, parS_eq, parR_2, callO_v, callO_vv, callO_vvv, callO_s, callO_sv, callO_svv, slD_l, allD_1, allD_2, isN_eq, forS_eq, forR_nil, enumS_eq, enR_some, isiD_str, lkN_s, lkN_v0, lkN_vi, lkR_0, lkR_i, lkR_fl, lkR_l, lkR_ex, beq_tt, beq_tf, beq_ft, beq_ff, siS_eq, siQ_fl, siR_0, siR_2, ixD_l0, ixD_l1, ixD_l2, bitsD_i, rngS1_eq, bd_ok, bd_ex, bs_ok, bs_ex, fz_d, fz_fl, fz_ex, up_ok, up_ex, oo_ok, oo_ex, lk_v, lk_s, lks_nil, lks_cons, ret_some, ret_none, Option.bind_some, Option.map_some, List.length_cons, List.length_nil, if_true, Bool.false_eq_true, if_false, Bool.not_true, Bool.not_false, List.map_cons, List.map_nil, List.cons_append, List.nil_append, List.append_nil, Nat.reduceAdd, Nat.reduceLT, Nat.zero_add, Nat.reduceLeDiff, eq_self, true_and, and_true, e]
      unfold trS
      rw [this]
    | some n =>
      obtain ⟨ρ, e⟩ := r2 (by rw [hw]; exact fun h => nomatch h)
      refine ⟨.ex 0 (.str z), ?_, rfl⟩
      generalize f_read_table = FT at e ⊢
      have : sqS (exS (callE 1 FT (consA (ooc (eV 3)) nilA))) skp [o0, o1, o2, some (.d (.str z)), some (.d (optD (some n))), some (.d .none), none] = .ex 0 (.str z) [o0, o1, o2, some (.d (.str z)), some (.d (optD (some n))), some (.d .none), none] := by
        simp only [gt_0, pt_0, gt_1, gt_2, gt_3, gt_4, gt_5, gt_6, gt_7, gt_8, gt_9, pt_1, pt_2, pt_3, pt_4, pt_5, pt_6, pt_7, pt_8, pt_9, co_d, co_fl, frz_d, frz_fl, sqS_eq, sq_nx, sq_rt, sq_bk, sq_ct, sq_ex, skp_eq, rtS_eq, asS_eq, ifS_eq, exS_eq, raS_eq, fin_rt, fin_nx, fin_ex, eC_eq, oV_eq, oVr_some, eV_eq, eVr_some, eM_eq, eMr_some, op1_eq, op2_eq, opn_eq, nilA_eq, consA_eq, tst_eq, tstB_ok, ifE_eq, ifR_t, ifR_f, andT_eq, orT_eq, andR_t, andR_f, orR_f, orR_t, notT_eq, dsO_nil, dsO_cons, tupE_eq, lstE_eq, tupR_some, lstR_some, callE_eq, callR_ok, callR_ex, ar_v, ar_s, refs_nil, refs_v, refs_s, bk_nil, bk_v, bk_s, bk_e, noP_eq, soP_eq, soB_int, smE_eq, smR_str, slE_eq, binA_i, binS_i, cmpE_i, cmpE_s, cmpE_b, cmpN_i, cmpN_s, cmpN_b, cmpI_i, absD_i, maxD_i, intD_i, intD_b, negD_i, lenD_l, lenD_t, ixD_t0, ixD_t1, fzc_eq, upc_eq, ooc_eq, hide_nil, hide_cons, back_nil, back_cons, bk_v1, bk_v2, nmG_eq, yesT_eq, compE_eq, compK_ok, anyS_eq, anyR_some, srO_v, srO_vs, srO_s, srR_fl, srR_d, srR_str, cmpIn_s, cmpNin_s, cm2_eq, cmR_t, cmR_f, andE_eq, orE_eq, notE_eq, andV_t, andV_f, orV_f, orV_t, notV_b, parS_eq, parR_2, callO_v, callO_vv, callO_vvv, callO_s, callO_sv, callO_svv, slD_l, allD_1, allD_2, isN_eq, forS_eq, forR_nil, enumS_eq, enR_some, isiD_str, lkN_s, lkN_v0, lkN_vi, lkR_0, lkR_i, lkR_fl, lkR_l, lkR_ex, beq_tt, beq_tf, beq_ft, beq_ff, siS_eq, siQ_fl, siR_0, siR_2, ixD_l0, ixD_l1, ixD_l2, bitsD_i, rngS1_eq, bd_ok, bd_ex, bs_ok, bs_ex, fz_d, fz_fl, fz_ex, up_ok, up_ex, oo_ok, oo_ex, lk_v, lk_s, lks_nil, lks_cons, ret_some, ret_none, Option.bind_some, Option.map_some, List.length_cons, List.length_nil, if_true, Bool.false_eq_true, if_false, Bool.not_true, Bool.not_false, List.map_cons, List.map_nil, List.cons_append, List.nil_append, List.append_nil, Nat.reduceAdd, Nat.reduceLT, Nat.zero_add, Nat.reduceLeDiff, eq_self, true_and, and_true, e]
      unfold trS
      rw [this]
      rfl
  obtain ⟨w, s3, l3⟩ := s3
  refine ⟨some w, ?_⟩
  unfold inS
  rw [sq_n (s1 o4 o5)]
  rw [sqS_eq, ifS_eq, s2]
  simp only [bs_ok, Bool.false_eq_true, if_false, skp_eq, sq_nx]
  rw [sq_n s3]
  obtain ⟨k, hk⟩ : ∃ k, lkR (some (.d (optD (wb z)))) = some k := by
    cases wb z with
    | none => exact ⟨true, rfl⟩
    | some n => exact ⟨false, rfl⟩
  rw [hk] at l3
  generalize optD (wb z) = D at hk ⊢
  cases k <;> simp only [gt_0, pt_0, gt_1, gt_2, gt_3, gt_4, gt_5, gt_6, gt_7, gt_8, gt_9, pt_1, pt_2, pt_3, pt_4, pt_5, pt_6, pt_7, pt_8, pt_9, co_d, co_fl, frz_d, frz_fl, sqS_eq, sq_nx, sq_rt, sq_bk, sq_ct, sq_ex, skp_eq, rtS_eq, asS_eq, ifS_eq, exS_eq, raS_eq, fin_rt, fin_nx, fin_ex, eC_eq, oV_eq, oVr_some, eV_eq, eVr_some, eM_eq, eMr_some, op1_eq, op2_eq, opn_eq, nilA_eq, consA_eq, tst_eq, tstB_ok, ifE_eq, ifR_t, ifR_f, andT_eq, orT_eq, andR_t, andR_f, orR_f, orR_t, notT_eq, dsO_nil, dsO_cons, tupE_eq, lstE_eq, tupR_some, lstR_some, callE_eq, callR_ok, callR_ex, ar_v, ar_s, refs_nil, refs_v, refs_s, bk_nil, bk_v, bk_s, bk_e, noP_eq, soP_eq, soB_int, smE_eq, smR_str, slE_eq, binA_i, binS_i, cmpE_i, cmpE_s, cmpE_b, cmpN_i, cmpN_s, cmpN_b, cmpI_i, absD_i, maxD_i, intD_i, intD_b, negD_i, lenD_l, lenD_t, ixD_t0, ixD_t1, fzc_eq, upc_eq, ooc_eq, hide_nil, hide_cons, back_nil, back_cons, bk_v1, bk_v2, nmG_eq, yesT_eq, compE_eq, compK_ok, anyS_eq, anyR_some, srO_v, srO_vs, srO_s, srR_fl, srR_d, srR_str, cmpIn_s, cmpNin_s, cm2_eq, cmR_t, cmR_f, andE_eq, orE_eq, notE_eq, andV_t, andV_f, orV_f, orV_t, notV_b, parS_eq, parR_2, callO_v, callO_vv, callO_vvv, callO_s, callO_sv, callO_svv, slD_l, allD_1, allD_2, isN_eq, forS_eq, forR_nil, enumS_eq, enR_some, isiD_str, lkN_s, lkN_v0, lkN_vi, lkR_0, lkR_i, lkR_fl, lkR_l, lkR_ex, beq_tt, beq_tf, beq_ft, beq_ff, siS_eq, siQ_fl, siR_0, siR_2, ixD_l0, ixD_l1, ixD_l2, bitsD_i, rngS1_eq, bd_ok, bd_ex, bs_ok, bs_ex, fz_d, fz_fl, fz_ex, up_ok, up_ex, oo_ok, oo_ex, lk_v, lk_s, lks_nil, lks_cons, ret_some, ret_none, Option.bind_some, Option.map_some, List.length_cons, List.length_nil, if_true, Bool.false_eq_true, if_false, Bool.not_true, Bool.not_false, List.map_cons, List.map_nil, List.cons_append, List.nil_append, List.append_nil, Nat.reduceAdd, Nat.reduceLT, Nat.zero_add, Nat.reduceLeDiff, eq_self, true_and, and_true, l3, hk]
theorem in_loop (o0 o1 o2 : Option W) : ∀ (xs : List PyData) (o3 o4 o5 : Option W), Txs 3000000 xs → ∃ o3' o4' o5', forGo (nmG 3) inS xs [o0, o1, o2, o3, o4, o5, none] = .nx [o0, o1, o2, o3', o4', o5', none]
  | [], o3, o4, o5, _ => ⟨o3, o4, o5, forGo_nil _ _ _⟩
  | x :: xs, o3, o4, o5, h => by
    obtain ⟨z, rfl, oz⟩ := h x List.mem_cons_self
    obtain ⟨c, e⟩ := in_ok oz o0 o1 o2 o4 o5
    obtain ⟨a, b, d, e2⟩ := in_loop o0 o1 o2 xs (some (.d (.str z))) (some (.d (optD (wb z)))) c fun x hx => h x (List.mem_cons_of_mem _ hx)
    refine ⟨a, b, d, ?_⟩
    have tg : nmG 3 (.str z) [o0, o1, o2, o3, o4, o5, none] = some [o0, o1, o2, some (.d (.str z)), o4, o5, none] := rfl
    rw [forGo_nx tg e]
    exact e2
end K85
set_option Elab.async false
set_option maxRecDepth 100000
set_option maxHeartbeats 2000000
namespace K85
open PySem PySem.Spec PyProof.Rows L2 Ev
noncomputable abbrev gnS : SE := callE 2 f_x_law_generator (consA (ooc (eV 0)) (consA (ooc (eV 1)) nilA))
noncomputable abbrev srS : SI := anyS (ooc (fzc (callE 2 f_x_law_texts (consA (oV 2) (consA (ooc (fzc (callE 3 f_x_law_table (consA (oV 2) (consA (ooc (eC (.int 5))) (consA (ooc (eC (.int 6))) nilA)))))) nilA)))))
noncomputable abbrev ouS : SS := sqS (asS 2 gnS) (sqS (forS (nmG 3) srS inS) skp)
theorem fz_ok {w : W} {x : PyData} (h : frz w = some x) (ρ : Sl) : fz (.ok w ρ) = .ok x ρ := by
  show (match frz w with | some x => R.ok x ρ | none => R.no) = _
  rw [h]
theorem ou_ok (ns : List Int) (i : Nat) (hi : i < 6) (o2 o3 o4 o5 : Option W) : ∃ o2' o3' o4' o5', ouS [some (.d (.list (ns.map .int))), iD (i : Int), o2, o3, o4, o5, none] = .nx [some (.d (.list (ns.map .int))), iD (i : Int), o2', o3', o4', o5', none] := by
  obtain ⟨g, ρ, e1, hg⟩ := e_law_generator ns i hi
  obtain ⟨ws, g1, e2, tb, hg1⟩ := e_law_table hg (by omega)
  obtain ⟨T, ef, td⟩ := frz_tab tb
  obtain ⟨xs, g2, e3, tx, hl, hg2⟩ := e_law_texts hg1 (by omega) td
  have a1 : asS 2 gnS [some (.d (.list (ns.map .int))), iD (i : Int), o2, o3, o4, o5, none] = .nx [some (.d (.list (ns.map .int))), iD (i : Int), some (.fl g), o3, o4, o5, none] := by
    unfold gnS
    generalize f_x_law_generator = FG at e1 ⊢
    simp only [gt_0, pt_0, gt_1, gt_2, gt_3, gt_4, gt_5, gt_6, gt_7, gt_8, gt_9, pt_1, pt_2, pt_3, pt_4, pt_5, pt_6, pt_7, pt_8, pt_9, co_d, co_fl, frz_d, frz_fl, sqS_eq, sq_nx, sq_rt, sq_bk, sq_ct, sq_ex, skp_eq, rtS_eq, asS_eq, ifS_eq, exS_eq, raS_eq, fin_rt, fin_nx, fin_ex, eC_eq, oV_eq, oVr_some, eV_eq, eVr_some, eM_eq, eMr_some, op1_eq, op2_eq, opn_eq, nilA_eq, consA_eq, tst_eq, tstB_ok, ifE_eq, ifR_t, ifR_f, andT_eq, orT_eq, andR_t, andR_f, orR_f, orR_t, notT_eq, dsO_nil, dsO_cons, tupE_eq, lstE_eq, tupR_some, lstR_some, callE_eq, callR_ok, callR_ex, ar_v, ar_s, refs_nil, refs_v, refs_s, bk_nil, bk_v, bk_s, bk_e, noP_eq, soP_eq, soB_int, smE_eq, smR_str, slE_eq, binA_i, binS_i, cmpE_i, cmpE_s, cmpE_b, cmpN_i, cmpN_s, cmpN_b, cmpI_i, absD_i, maxD_i, intD_i, intD_b, negD_i, lenD_l, lenD_t, ixD_t0, ixD_t1, fzc_eq, upc_eq, ooc_eq, hide_nil, hide_cons, back_nil, back_cons, bk_v1, bk_v2, nmG_eq, yesT_eq, compE_eq, compK_ok, anyS_eq, anyR_some, srO_v, srO_vs, srO_s, srR_fl, srR_d, srR_str, cmpIn_s, cmpNin_s, cm2_eq, cmR_t, cmR_f, andE_eq, orE_eq, notE_eq, andV_t, andV_f, orV_f, orV_t, notV_b, parS_eq, parR_2, callO_v, callO_vv, callO_vvv, callO_s, callO_sv, callO_svv, slD_l, allD_1, allD_2, isN_eq, forS_eq, forR_nil, enumS_eq, enR_some, isiD_str, lkN_s, lkN_v0, lkN_vi, lkR_0, lkR_i, lkR_fl, lkR_l, lkR_ex, beq_tt, beq_tf, beq_ft, beq_ff, siS_eq, siQ_fl, siR_0, siR_2, ixD_l0, ixD_l1, ixD_l2, bitsD_i, rngS1_eq, bd_ok, bd_ex, bs_ok, bs_ex, fz_d, fz_fl, fz_ex, up_ok, up_ex, oo_ok, oo_ex, lk_v, lk_s, lks_nil, lks_cons, ret_some, ret_none, Option.bind_some, Option.map_some, List.length_cons, List.length_nil, if_true, Bool.false_eq_true, if_false, Bool.not_true, Bool.not_false, List.map_cons, List.map_nil, List.cons_append, List.nil_append, List.append_nil, Nat.reduceAdd, Nat.reduceLT, Nat.zero_add, Nat.reduceLeDiff, eq_self, true_and, and_true, e1]
  have a2 : srS [some (.d (.list (ns.map .int))), iD (i : Int), some (.fl g), o3, o4, o5, none] = .ok (xs, []) [some (.d (.list (ns.map .int))), iD (i : Int), some (.fl g2), o3, o4, o5, none] := by
    unfold srS
    have f1 := fz_ok ef
    generalize f_x_law_texts = FX at e3 ⊢
    generalize f_x_law_table = FT at e2 ⊢
    generalize PyData.list (T.map .list) = TT at e3 f1 ⊢
    simp only [gt_0, pt_0, gt_1, gt_2, gt_3, gt_4, gt_5, gt_6, gt_7, gt_8, gt_9, pt_1, pt_2, pt_3, pt_4, pt_5, pt_6, pt_7, pt_8, pt_9, co_d, co_fl, frz_d, frz_fl, sqS_eq, sq_nx, sq_rt, sq_bk, sq_ct, sq_ex, skp_eq, rtS_eq, asS_eq, ifS_eq, exS_eq, raS_eq, fin_rt, fin_nx, fin_ex, eC_eq, oV_eq, oVr_some, eV_eq, eVr_some, eM_eq, eMr_some, op1_eq, op2_eq, opn_eq, nilA_eq, consA_eq, tst_eq, tstB_ok, ifE_eq, ifR_t, ifR_f, andT_eq, orT_eq, andR_t, andR_f, orR_f, orR_t, notT_eq, dsO_nil, dsO_cons, tupE_eq, lstE_eq, tupR_some, lstR_some, callE_eq, callR_ok, callR_ex, ar_v, ar_s, refs_nil, refs_v, refs_s, bk_nil, bk_v, bk_s, bk_e, noP_eq, soP_eq, soB_int, smE_eq, smR_str, slE_eq, binA_i, binS_i, cmpE_i, cmpE_s, cmpE_b, cmpN_i, cmpN_s, cmpN_b, cmpI_i, absD_i, maxD_i, intD_i, intD_b, negD_i, lenD_l, lenD_t, ixD_t0, ixD_t1, fzc_eq, upc_eq, ooc_eq, hide_nil, hide_cons, back_nil, back_cons, bk_v1, bk_v2, nmG_eq, yesT_eq, compE_eq, compK_ok, anyS_eq, anyR_some, srO_v, srO_vs, srO_s, srR_fl, srR_d, srR_str, cmpIn_s, cmpNin_s, cm2_eq, cmR_t, cmR_f, andE_eq, orE_eq, notE_eq, andV_t, andV_f, orV_f, orV_t, notV_b, parS_eq, parR_2, callO_v, callO_vv, callO_vvv, callO_s, callO_sv, callO_svv, slD_l, allD_1, allD_2, isN_eq, forS_eq, forR_nil, enumS_eq, enR_some, isiD_str, lkN_s, lkN_v0, lkN_vi, lkR_0, lkR_i, lkR_fl, lkR_l, lkR_ex, beq_tt, beq_tf, beq_ft, beq_ff, siS_eq, siQ_fl, siR_0, siR_2, ixD_l0, ixD_l1, ixD_l2, bitsD_i, rngS1_eq, bd_ok, bd_ex, bs_ok, bs_ex, fz_d, fz_fl, fz_ex, up_ok, up_ex, oo_ok, oo_ex, lk_v, lk_s, lks_nil, lks_cons, ret_some, ret_none, Option.bind_some, Option.map_some, List.length_cons, List.length_nil, if_true, Bool.false_eq_true, if_false, Bool.not_true, Bool.not_false, List.map_cons, List.map_nil, List.cons_append, List.nil_append, List.append_nil, Nat.reduceAdd, Nat.reduceLT, Nat.zero_add, Nat.reduceLeDiff, eq_self, true_and, and_true, e2, f1, e3]
  obtain ⟨o3', o4', o5', e4⟩ := in_loop (some (.d (.list (ns.map .int)))) (iD (i : Int)) (some (.fl g2)) xs o3 o4 o5 tx
  refine ⟨some (.fl g2), o3', o4', o5', ?_⟩
  unfold ouS
  rw [sq_n a1, sq_n (forS_ok a2 e4)]
  rfl
theorem ou_loop (ns : List Int) : ∀ (k i : Nat) (o1 o2 o3 o4 o5 : Option W), i + k ≤ 6 → ∃ o1' o2' o3' o4' o5', forGo (nmG 1) ouS ((List.range' i k).map fun j : Nat => .int (j : Int)) [some (.d (.list (ns.map .int))), o1, o2, o3, o4, o5, none] = .nx [some (.d (.list (ns.map .int))), o1', o2', o3', o4', o5', none]
  | 0, i, o1, o2, o3, o4, o5, _ => ⟨o1, o2, o3, o4, o5, forGo_nil _ _ _⟩
  | k + 1, i, o1, o2, o3, o4, o5, h => by
    obtain ⟨a, b, c, d, e⟩ := ou_ok ns i (by omega) o2 o3 o4 o5
    obtain ⟨p, q, r, s, t, e2⟩ := ou_loop ns k (i + 1) (iD (i : Int)) a b c d (by omega)
    refine ⟨p, q, r, s, t, ?_⟩
    have tg : nmG 1 (.int (i : Int)) [some (.d (.list (ns.map .int))), o1, o2, o3, o4, o5, none] = some [some (.d (.list (ns.map .int))), iD (i : Int), o2, o3, o4, o5, none] := rfl
    rw [List.range'_succ, List.map_cons, forGo_nx tg e]
    exact e2
theorem law_s : s_law = sqS (forS (nmG 1) (rngS1 (eC (.int 6))) ouS)
    (sqS (rtS (andE (fzc (op2 cmpE (ooc (fzc (callE 1 f_wrong_line (consA (ooc (fzc (op2 binM (ooc (eC (.str "1 0\n"))) (ooc (eC (.int 6)))))) nilA)))) (ooc (eC (.int 5))))) (isN true (ooc (fzc (callE 1 f_wrong_line (consA (ooc (fzc (op2 binM (ooc (eC (.str "1 0\n"))) (ooc (eC (.int 5)))))) nilA)))))))
    skp) := rfl
theorem wb6 : wb (repS "1 0\n" 6) = some 5 := by decide +kernel
theorem wb5 : wb (repS "1 0\n" 5) = none := by decide +kernel
theorem plain : Plain := by
  intro ns _ _
  rw [show f_law [some (.d (.list (ns.map .int)))] = finR 1 [1, 2, 3, 4, 5, 6] (s_law [some (.d (.list (ns.map .int))), none, none, none, none, none, none]) from bodyR_eq ..]
  rw [law_s]
  obtain ⟨o1, o2, o3, o4, o5, e⟩ := ou_loop ns 6 0 none none none none none (by decide)
  have hr : ∀ ρ, rngS1 (eC (.int 6)) ρ = .ok ((List.range' 0 6).map fun j : Nat => .int (j : Int), []) ρ := fun ρ => by
    rw [rngS1_eq, eC_eq, bd_ok]
    refine (rgR_ok _ 6 (by decide)).trans ?_
    rfl
  rw [sq_n (forS_ok (hr _) e)]
  have oq : Ok 4 ("1 0\n" : Str) := Ok.lit "1 0\n" (by decide)
  have m6 : binM (.str "1 0\n") (.int 6) = some (.d (.str (repS "1 0\n" ((6 : Nat) : Int)))) := mulS (n := 6) oq (by decide) (by decide)
  have m5 : binM (.str "1 0\n") (.int 5) = some (.d (.str (repS "1 0\n" ((5 : Nat) : Int)))) := mulS (n := 5) oq (by decide) (by decide)
  obtain ⟨ρ1, e1⟩ := e_wrong_line (repS "1 0\n" ((6 : Nat) : Int)) (Nat.le_trans (oq.rep 6).1 (by decide))
  obtain ⟨ρ2, e2⟩ := e_wrong_line (repS "1 0\n" ((5 : Nat) : Int)) (Nat.le_trans (oq.rep 5).1 (by decide))
  rw [show wb (repS "1 0\n" ((6 : Nat) : Int)) = some 5 from wb6, show optD (some 5) = .int 5 from rfl] at e1
  rw [show wb (repS "1 0\n" ((5 : Nat) : Int)) = none from wb5, show optD none = .none from rfl] at e2
  generalize repS "1 0\n" ((6 : Nat) : Int) = Z6 at m6 e1
  generalize repS "1 0\n" ((5 : Nat) : Int) = Z5 at m5 e2
  generalize f_wrong_line = FW at e1 e2 ⊢
  generalize binM = BM at m6 m5 ⊢
  have c5 : ((5 : Int) == 5) = true := rfl
  simp only [gt_0, pt_0, gt_1, gt_2, gt_3, gt_4, gt_5, gt_6, gt_7, gt_8, gt_9, pt_1, pt_2, pt_3, pt_4, pt_5, pt_6, pt_7, pt_8, pt_9, co_d, co_fl, frz_d, frz_fl, sqS_eq, sq_nx, sq_rt, sq_bk, sq_ct, sq_ex, skp_eq, rtS_eq, asS_eq, ifS_eq, exS_eq, raS_eq, fin_rt, fin_nx, fin_ex, eC_eq, oV_eq, oVr_some, eV_eq, eVr_some, eM_eq, eMr_some, op1_eq, op2_eq, opn_eq, nilA_eq, consA_eq, tst_eq, tstB_ok, ifE_eq, ifR_t, ifR_f, andT_eq, orT_eq, andR_t, andR_f, orR_f, orR_t, notT_eq, dsO_nil, dsO_cons, tupE_eq, lstE_eq, tupR_some, lstR_some, callE_eq, callR_ok, callR_ex, ar_v, ar_s, refs_nil, refs_v, refs_s, bk_nil, bk_v, bk_s, bk_e, noP_eq, soP_eq, soB_int, smE_eq, smR_str, slE_eq, binA_i, binS_i, cmpE_i, cmpE_s, cmpE_b, cmpN_i, cmpN_s, cmpN_b, cmpI_i, absD_i, maxD_i, intD_i, intD_b, negD_i, lenD_l, lenD_t, ixD_t0, ixD_t1, fzc_eq, upc_eq, ooc_eq, hide_nil, hide_cons, back_nil, back_cons, bk_v1, bk_v2, nmG_eq, yesT_eq, compE_eq, compK_ok, anyS_eq, anyR_some, srO_v, srO_vs, srO_s, srR_fl, srR_d, srR_str, cmpIn_s, cmpNin_s, cm2_eq, cmR_t, cmR_f, andE_eq, orE_eq, notE_eq, andV_t, andV_f, orV_f, orV_t, notV_b, parS_eq, parR_2, callO_v, callO_vv, callO_vvv, callO_s, callO_sv, callO_svv, slD_l, allD_1, allD_2, isN_eq, forS_eq, forR_nil, enumS_eq, enR_some, isiD_str, lkN_s, lkN_v0, lkN_vi, lkR_0, lkR_i, lkR_fl, lkR_l, lkR_ex, beq_tt, beq_tf, beq_ft, beq_ff, siS_eq, siQ_fl, siR_0, siR_2, ixD_l0, ixD_l1, ixD_l2, bitsD_i, rngS1_eq, bd_ok, bd_ex, bs_ok, bs_ex, fz_d, fz_fl, fz_ex, up_ok, up_ex, oo_ok, oo_ex, lk_v, lk_s, lks_nil, lks_cons, ret_some, ret_none, Option.bind_some, Option.map_some, List.length_cons, List.length_nil, if_true, Bool.false_eq_true, if_false, Bool.not_true, Bool.not_false, List.map_cons, List.map_nil, List.cons_append, List.nil_append, List.append_nil, Nat.reduceAdd, Nat.reduceLT, Nat.zero_add, Nat.reduceLeDiff, eq_self, true_and, and_true, m6, e1, m5, e2, c5]
  exact ⟨_, rfl⟩
end K85
open PySem PySem.W PyProof.Rows
theorem PySem.Challenge.cw_fewnonzero_k85_whole_wrong_lines_of_tabl_holds : PySem.Challenge.rw_fewnonzero_k85_whole_wrong_lines_of_tabl.Holds := by
  exact K85.holds K85.plain
