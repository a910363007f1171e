import PyProof.Rows.All
import Wide.All
import OpenK.AllK
import Wide.FinOn
import PySem.Challenge.RW_handpiles_k75_whole_texts_read_back
import HandS.ForMost
import HandS.ForExc
import HandS.Evl
import HandS.Walk
import HandS.CallSlots
import HandS.Defaults
import HandS.Wide
import HandS.IsInst
import HandS.FStr
import HandS.Deep
import HandS.Zip
import HandS.Text
set_option Elab.async false
set_option linter.all false
set_option maxRecDepth 100000
set_option maxHeartbeats 2000000
/-! Rf, part A: data, how data stand in the abstract heap, what a step may change. -/
namespace Rf
open PySem L2
open Evl (Ex)

/-- plain data -/
inductive D where
  | non | bl (b : Bool) | int (i : Int) | str (x : Str)
  | lst (xs : List D) | tup (xs : List D)
  /-- a list that is only read (the script) -/
  | kls (xs : List D)
  /-- a dict: its keys (each a list of plain keys: one, or a tuple's), its values -/
  | dct (tk : Bool) (ks : List (List Key)) (xs : List D)
  /-- an instance: its class, the names of its fields, their values -/
  | obj (C : Addr) (fs : List Str) (xs : List D)

mutual
def D.beq : D → D → Bool
  | .non, .non => true
  | .bl a, .bl b => a == b
  | .int a, .int b => a == b
  | .str a, .str b => decide (a = b)
  | .lst a, .lst b => D.beqL a b
  | .tup a, .tup b => D.beqL a b
  | .kls a, .kls b => D.beqL a b
  | .dct t ks a, .dct u ls b => (t == u) && decide (ks = ls) && D.beqL a b
  | .obj c fs a, .obj d gs b => decide (c = d) && decide (fs = gs) && D.beqL a b
  | _, _ => false
def D.beqL : List D → List D → Bool
  | [], [] => true
  | a :: r, b :: s => D.beq a b && D.beqL r s
  | _, _ => false
end
mutual
theorem D.beq_refl : ∀ a : D, D.beq a a = true
  | .non => rfl
  | .bl a => by simp [D.beq]
  | .int a => by simp [D.beq]
  | .str a => by simp [D.beq]
  | .lst a => by simp [D.beq, D.beqL_refl a]
  | .tup a => by simp [D.beq, D.beqL_refl a]
  | .kls a => by simp [D.beq, D.beqL_refl a]
  | .dct t ks a => by simp [D.beq, D.beqL_refl a]
  | .obj c fs a => by simp [D.beq, D.beqL_refl a]
theorem D.beqL_refl : ∀ a : List D, D.beqL a a = true
  | [] => rfl
  | a :: r => by simp [D.beqL, D.beq_refl a, D.beqL_refl r]
end
mutual
theorem D.eq_of_beq : ∀ a b : D, D.beq a b = true → a = b
  | .non, b, h => by cases b <;> simp [D.beq] at h ⊢
  | .bl a, b, h => by cases b <;> simp [D.beq] at h ⊢ <;> exact h
  | .int a, b, h => by cases b <;> simp [D.beq] at h ⊢ <;> exact h
  | .str a, b, h => by cases b <;> simp [D.beq] at h ⊢ <;> exact h
  | .lst a, b, h => by
    cases b with
    | lst b => simp [D.beq] at h; rw [D.eqL_of_beq a b h]
    | _ => simp [D.beq] at h
  | .tup a, b, h => by
    cases b with
    | tup b => simp [D.beq] at h; rw [D.eqL_of_beq a b h]
    | _ => simp [D.beq] at h
  | .kls a, b, h => by
    cases b with
    | kls b => simp [D.beq] at h; rw [D.eqL_of_beq a b h]
    | _ => simp [D.beq] at h
  | .dct t ks a, b, h => by
    cases b with
    | dct u ls b => simp [D.beq] at h; obtain ⟨⟨h1, h2⟩, h3⟩ := h; rw [h1, h2, D.eqL_of_beq a b h3]
    | _ => simp [D.beq] at h
  | .obj c fs a, b, h => by
    cases b with
    | obj u ls b => simp [D.beq] at h; obtain ⟨⟨h1, h2⟩, h3⟩ := h; rw [h1, h2, D.eqL_of_beq a b h3]
    | _ => simp [D.beq] at h
theorem D.eqL_of_beq : ∀ a b : List D, D.beqL a b = true → a = b
  | [], b, h => by cases b <;> simp [D.beqL] at h ⊢
  | a :: r, b, h => by
    cases b with
    | nil => simp [D.beqL] at h
    | cons c s => simp [D.beqL] at h; rw [D.eq_of_beq a c h.1, D.eqL_of_beq r s h.2]
end
instance : DecidableEq D := fun a b => if h : D.beq a b = true then isTrue (D.eq_of_beq a b h) else isFalse fun e => h (by rw [e]; exact D.beq_refl b)

/-! ### how data stand -/
/-- the pairs of an H-dict -/
def kvs1 : List (List Key) → List V → List (Key × V)
  | [k] :: ks, v :: vs => (k, v) :: kvs1 ks vs
  | _, _ => []
mutual
/-- d stands at v. k: how deep it is owned (0: it stands still, in Hs); fp: the places that are owned -/
def Rp (K : PySem.W.Frag) (H Hs : Hp) : D → Nat → V → List Addr → Prop
  | .non, _, v, fp => v = .non ∧ fp = []
  | .bl b, _, v, fp => v = .bl b ∧ fp = []
  | .int i, _, v, fp => v = .int i ∧ fp = []
  | .str x, _, v, fp => v = .str x ∧ fp = []
  | .lst ds, k, v, fp => ∃ a vs f, v = .ref a ∧ RpL K H Hs ds (k - 1) vs f ∧ ((k = 0 ∧ Hs a = some (.lst vs) ∧ fp = f) ∨ (0 < k ∧ H a = some (.lst vs) ∧ Hs a = none ∧ fp = a :: f))
  | .tup ds, k, v, fp => ∃ a vs, v = .ref a ∧ RpL K H Hs ds (k - 1) vs fp ∧ Hs a = some (.tup vs)
  | .kls ds, _, v, fp => ∃ a vs, v = .ref a ∧ RpL K H Hs ds 0 vs [] ∧ SqL K Hs a vs ∧ fp = []
  | .dct t ks ds, k, v, fp => ∃ a vs f, v = .ref a ∧ RpL K H Hs ds (k - 1) vs f ∧ ks.length = vs.length ∧ (t = false → ∀ x ∈ ks, x.length = 1) ∧
      ∃ o, o = (if t then HO.dT (ks.zip vs) else HO.dK (kvs1 ks vs)) ∧ ((k = 0 ∧ Hs a = some o ∧ fp = f) ∨ (0 < k ∧ H a = some o ∧ Hs a = none ∧ fp = a :: f))
  | .obj C fs ds, k, v, fp => ∃ a vs f dx, v = .ref a ∧ RpL K H Hs ds (k - 1) vs f ∧ fs.length = vs.length ∧
      ∃ o, o = HO.ins C dx (fs.zip vs) ∧ ((k = 0 ∧ Hs a = some o ∧ fp = f) ∨ (0 < k ∧ H a = some o ∧ Hs a = none ∧ fp = a :: f))
def RpL (K : PySem.W.Frag) (H Hs : Hp) : List D → Nat → List V → List Addr → Prop
  | [], _, vs, fp => vs = [] ∧ fp = []
  | d :: ds, k, vs, fp => ∃ v r f g, vs = v :: r ∧ fp = f ++ g ∧ Rp K H Hs d k v f ∧ RpL K H Hs ds k r g
end

section
variable {K : PySem.W.Frag} {H H' Hs Hs' : Hp}
mutual
/-- what is owned stays, what stands still stands still -/
theorem Rp.frame : ∀ {d : D} {k : Nat} {v : V} {fp : List Addr}, Rp K H Hs d k v fp → Ex Hs Hs' → (∀ a ∈ fp, H' a = H a ∧ Hs' a = none) → Rp K H' Hs' d k v fp
  | .non, _, _, _, h, _, _ => h
  | .bl _, _, _, _, h, _, _ => h
  | .int _, _, _, _, h, _, _ => h
  | .str _, _, _, _, h, _, _ => h
  | .lst ds, k, v, fp, h, e, q => by
    obtain ⟨a, vs, f, rfl, hl, hc⟩ := h
    rcases hc with ⟨rfl, h1, rfl⟩ | ⟨hk, h1, h2, rfl⟩
    · exact ⟨a, vs, _, rfl, RpL.frame hl e q, .inl ⟨rfl, e _ _ h1, rfl⟩⟩
    · exact ⟨a, vs, f, rfl, RpL.frame hl e (fun b hb => q b (List.mem_cons_of_mem _ hb)), .inr ⟨hk, (q a List.mem_cons_self).1.trans h1, (q a List.mem_cons_self).2, rfl⟩⟩
  | .tup ds, k, v, fp, h, e, q => by
    obtain ⟨a, vs, rfl, hl, hc⟩ := h
    exact ⟨a, vs, rfl, RpL.frame hl e q, e _ _ hc⟩
  | .kls ds, k, v, fp, h, e, q => by
    obtain ⟨a, vs, rfl, hl, hc, rfl⟩ := h
    exact ⟨a, vs, rfl, RpL.frame hl e (fun _ z => nomatch z), Evl.ex_l e hc, rfl⟩
  | .dct t ks ds, k, v, fp, h, e, q => by
    obtain ⟨a, vs, f, rfl, hl, hz, hy, o, ho, hc⟩ := h
    rcases hc with ⟨rfl, h1, rfl⟩ | ⟨hk, h1, h2, rfl⟩
    · exact ⟨a, vs, _, rfl, RpL.frame hl e q, hz, hy, o, ho, .inl ⟨rfl, e _ _ h1, rfl⟩⟩
    · exact ⟨a, vs, f, rfl, RpL.frame hl e (fun b hb => q b (List.mem_cons_of_mem _ hb)), hz, hy, o, ho, .inr ⟨hk, (q a List.mem_cons_self).1.trans h1, (q a List.mem_cons_self).2, rfl⟩⟩
  | .obj C fs ds, k, v, fp, h, e, q => by
    obtain ⟨a, vs, f, dx, rfl, hl, hz, o, ho, hc⟩ := h
    rcases hc with ⟨rfl, h1, rfl⟩ | ⟨hk, h1, h2, rfl⟩
    · exact ⟨a, vs, _, dx, rfl, RpL.frame hl e q, hz, o, ho, .inl ⟨rfl, e _ _ h1, rfl⟩⟩
    · exact ⟨a, vs, f, dx, rfl, RpL.frame hl e (fun b hb => q b (List.mem_cons_of_mem _ hb)), hz, o, ho, .inr ⟨hk, (q a List.mem_cons_self).1.trans h1, (q a List.mem_cons_self).2, rfl⟩⟩
theorem RpL.frame : ∀ {ds : List D} {k : Nat} {vs : List V} {fp : List Addr}, RpL K H Hs ds k vs fp → Ex Hs Hs' → (∀ a ∈ fp, H' a = H a ∧ Hs' a = none) → RpL K H' Hs' ds k vs fp
  | [], _, _, _, h, _, _ => h
  | d :: ds, k, vs, fp, h, e, q => by
    obtain ⟨v, r, f, g, rfl, rfl, h1, h2⟩ := h
    exact ⟨v, r, f, g, rfl, rfl, Rp.frame h1 e (fun a ha => q a (List.mem_append_left _ ha)), RpL.frame h2 e (fun a ha => q a (List.mem_append_right _ ha))⟩
end
mutual
/-- owned things put still -/
theorem Rp.freeze : ∀ {d : D} {k : Nat} {v : V} {fp : List Addr}, Rp K H Hs d k v fp → Ex Hs Hs' → (∀ a ∈ fp, Hs' a = H a) → Rp K H' Hs' d 0 v []
  | .non, _, _, _, h, _, _ => ⟨h.1, rfl⟩
  | .bl _, _, _, _, h, _, _ => ⟨h.1, rfl⟩
  | .int _, _, _, _, h, _, _ => ⟨h.1, rfl⟩
  | .str _, _, _, _, h, _, _ => ⟨h.1, rfl⟩
  | .lst ds, k, v, fp, h, e, q => by
    obtain ⟨a, vs, f, rfl, hl, hc⟩ := h
    rcases hc with ⟨rfl, h1, rfl⟩ | ⟨hk, h1, h2, rfl⟩
    · exact ⟨a, vs, [], rfl, RpL.freeze hl e q, .inl ⟨rfl, e _ _ h1, rfl⟩⟩
    · exact ⟨a, vs, [], rfl, RpL.freeze hl e (fun b hb => q b (List.mem_cons_of_mem _ hb)), .inl ⟨rfl, (q a List.mem_cons_self).trans h1, rfl⟩⟩
  | .tup ds, k, v, fp, h, e, q => by
    obtain ⟨a, vs, rfl, hl, hc⟩ := h
    exact ⟨a, vs, rfl, RpL.freeze hl e q, e _ _ hc⟩
  | .kls ds, k, v, fp, h, e, q => by
    obtain ⟨a, vs, rfl, hl, hc, rfl⟩ := h
    exact ⟨a, vs, rfl, RpL.freeze hl e (fun _ z => nomatch z), Evl.ex_l e hc, rfl⟩
  | .dct t ks ds, k, v, fp, h, e, q => by
    obtain ⟨a, vs, f, rfl, hl, hz, hy, o, ho, hc⟩ := h
    rcases hc with ⟨rfl, h1, rfl⟩ | ⟨hk, h1, h2, rfl⟩
    · exact ⟨a, vs, [], rfl, RpL.freeze hl e q, hz, hy, o, ho, .inl ⟨rfl, e _ _ h1, rfl⟩⟩
    · exact ⟨a, vs, [], rfl, RpL.freeze hl e (fun b hb => q b (List.mem_cons_of_mem _ hb)), hz, hy, o, ho, .inl ⟨rfl, (q a List.mem_cons_self).trans h1, rfl⟩⟩
  | .obj C fs ds, k, v, fp, h, e, q => by
    obtain ⟨a, vs, f, dx, rfl, hl, hz, o, ho, hc⟩ := h
    rcases hc with ⟨rfl, h1, rfl⟩ | ⟨hk, h1, h2, rfl⟩
    · exact ⟨a, vs, [], dx, rfl, RpL.freeze hl e q, hz, o, ho, .inl ⟨rfl, e _ _ h1, rfl⟩⟩
    · exact ⟨a, vs, [], dx, rfl, RpL.freeze hl e (fun b hb => q b (List.mem_cons_of_mem _ hb)), hz, o, ho, .inl ⟨rfl, (q a List.mem_cons_self).trans h1, rfl⟩⟩
theorem RpL.freeze : ∀ {ds : List D} {k : Nat} {vs : List V} {fp : List Addr}, RpL K H Hs ds k vs fp → Ex Hs Hs' → (∀ a ∈ fp, Hs' a = H a) → RpL K H' Hs' ds 0 vs []
  | [], _, _, _, h, _, _ => ⟨h.1, rfl⟩
  | d :: ds, k, vs, fp, h, e, q => by
    obtain ⟨v, r, f, g, rfl, rfl, h1, h2⟩ := h
    exact ⟨v, r, [], [], rfl, rfl, Rp.freeze h1 e (fun a ha => q a (List.mem_append_left _ ha)), RpL.freeze h2 e (fun a ha => q a (List.mem_append_right _ ha))⟩
end
mutual
/-- every owned place is tracked, and does not stand still -/
theorem Rp.own : ∀ {d : D} {k : Nat} {v : V} {fp : List Addr}, Rp K H Hs d k v fp → ∀ a ∈ fp, Hs a = none ∧ (∃ o, H a = some o ∧ ∀ xs, o ≠ .tup xs) ∧ 0 < k
  | .non, _, _, _, h, a, ha => by rw [h.2] at ha; cases ha
  | .bl _, _, _, _, h, a, ha => by rw [h.2] at ha; cases ha
  | .int _, _, _, _, h, a, ha => by rw [h.2] at ha; cases ha
  | .str _, _, _, _, h, a, ha => by rw [h.2] at ha; cases ha
  | .lst ds, k, v, fp, h, b, hb => by
    obtain ⟨a, vs, f, rfl, hl, hc⟩ := h
    rcases hc with ⟨rfl, h1, rfl⟩ | ⟨hk, h1, h2, rfl⟩
    · exact absurd (RpL.own hl b hb).2.2 (Nat.lt_irrefl _)
    · rcases List.mem_cons.mp hb with rfl | hb
      · exact ⟨h2, ⟨_, h1, fun _ z => nomatch z⟩, hk⟩
      · exact ⟨(RpL.own hl b hb).1, (RpL.own hl b hb).2.1, hk⟩
  | .tup ds, k, v, fp, h, b, hb => by
    obtain ⟨a, vs, rfl, hl, hc⟩ := h
    have := RpL.own hl b hb
    exact ⟨this.1, this.2.1, by omega⟩
  | .kls ds, k, v, fp, h, b, hb => by
    obtain ⟨a, vs, rfl, hl, hc, rfl⟩ := h
    cases hb
  | .dct t ks ds, k, v, fp, h, b, hb => by
    obtain ⟨a, vs, f, rfl, hl, hz, hy, o, ho, hc⟩ := h
    rcases hc with ⟨rfl, h1, rfl⟩ | ⟨hk, h1, h2, rfl⟩
    · exact absurd (RpL.own hl b hb).2.2 (Nat.lt_irrefl _)
    · rcases List.mem_cons.mp hb with rfl | hb
      · exact ⟨h2, ⟨_, h1, fun _ z => by rw [ho] at z; cases t <;> cases z⟩, hk⟩
      · exact ⟨(RpL.own hl b hb).1, (RpL.own hl b hb).2.1, hk⟩
  | .obj C fs ds, k, v, fp, h, b, hb => by
    obtain ⟨a, vs, f, dx, rfl, hl, hz, o, ho, hc⟩ := h
    rcases hc with ⟨rfl, h1, rfl⟩ | ⟨hk, h1, h2, rfl⟩
    · exact absurd (RpL.own hl b hb).2.2 (Nat.lt_irrefl _)
    · rcases List.mem_cons.mp hb with rfl | hb
      · exact ⟨h2, ⟨_, h1, fun _ z => by rw [ho] at z; cases z⟩, hk⟩
      · exact ⟨(RpL.own hl b hb).1, (RpL.own hl b hb).2.1, hk⟩
theorem RpL.own : ∀ {ds : List D} {k : Nat} {vs : List V} {fp : List Addr}, RpL K H Hs ds k vs fp → ∀ a ∈ fp, Hs a = none ∧ (∃ o, H a = some o ∧ ∀ xs, o ≠ .tup xs) ∧ 0 < k
  | [], _, _, _, h, a, ha => by rw [h.2] at ha; cases ha
  | d :: ds, k, vs, fp, h, a, ha => by
    obtain ⟨v, r, f, g, rfl, rfl, h1, h2⟩ := h
    rcases List.mem_append.mp ha with ha | ha
    · exact Rp.own h1 a ha
    · exact RpL.own h2 a ha
end
theorem Rp.fp0 {d : D} {v : V} {fp : List Addr} (h : Rp K H Hs d 0 v fp) : fp = [] := by
  cases fp with
  | nil => rfl
  | cons a r => exact absurd (Rp.own h a List.mem_cons_self).2.2 (Nat.lt_irrefl _)
theorem RpL.fp0 {d : List D} {v : List V} {fp : List Addr} (h : RpL K H Hs d 0 v fp) : fp = [] := by
  cases fp with
  | nil => rfl
  | cons a r => exact absurd (RpL.own h a List.mem_cons_self).2.2 (Nat.lt_irrefl _)
/-- a still thing over any heap -/
theorem Rp.still {d : D} {v : V} (h : Rp K H Hs d 0 v []) (e : Ex Hs Hs') : Rp K H' Hs' d 0 v [] := Rp.frame h e fun _ z => nomatch z
theorem RpL.still {d : List D} {v : List V} (h : RpL K H Hs d 0 v []) (e : Ex Hs Hs') : RpL K H' Hs' d 0 v [] := RpL.frame h e fun _ z => nomatch z
/-- seen in the heap as it is -/
theorem Rp.view {d : D} {k : Nat} {v : V} {fp : List Addr} (h : Rp K H Hs d k v fp) (e : Ex Hs H) : Rp K H H d 0 v [] := Rp.freeze h e fun _ _ => rfl
theorem RpL.view {d : List D} {k : Nat} {v : List V} {fp : List Addr} (h : RpL K H Hs d k v fp) (e : Ex Hs H) : RpL K H H d 0 v [] := RpL.freeze h e fun _ _ => rfl
theorem RpL.len : ∀ {ds : List D} {k : Nat} {vs : List V} {fp : List Addr}, RpL K H Hs ds k vs fp → ds.length = vs.length
  | [], _, _, _, h => by rw [h.1]; rfl
  | d :: ds, k, vs, fp, h => by
    obtain ⟨v, r, f, g, rfl, rfl, h1, h2⟩ := h
    rw [List.length_cons, List.length_cons, RpL.len h2]
theorem RpL.get : ∀ {ds : List D} {vs : List V} {i : Nat} {d : D}, RpL K H Hs ds 0 vs [] → ds[i]? = some d → ∃ v, vs[i]? = some v ∧ Rp K H Hs d 0 v []
  | [], _, i, _, _, e => by simp at e
  | d :: ds, vs, 0, _, h, e => by
    obtain ⟨v, r, f, g, rfl, hfg, h1, h2⟩ := h
    have e1 : f = [] := (List.append_eq_nil_iff.mp hfg.symm).1
    subst e1
    simp at e
    subst e
    exact ⟨v, rfl, h1⟩
  | d :: ds, vs, i + 1, x, h, e => by
    obtain ⟨v, r, f, g, rfl, hfg, h1, h2⟩ := h
    have e1 : g = [] := (List.append_eq_nil_iff.mp hfg.symm).2
    subst e1
    obtain ⟨u, q1, q2⟩ := RpL.get (i := i) (d := x) h2 (by simpa using e)
    exact ⟨u, by simpa using q1, q2⟩
theorem RpL.append : ∀ {ds es : List D} {k : Nat} {vs us : List V} {f g : List Addr}, RpL K H Hs ds k vs f → RpL K H Hs es k us g → RpL K H Hs (ds ++ es) k (vs ++ us) (f ++ g)
  | [], _, _, _, _, _, _, h, q => by
    obtain ⟨rfl, rfl⟩ := h
    exact q
  | d :: ds, es, k, vs, us, f, g, h, q => by
    obtain ⟨v, r, f1, f2, rfl, rfl, h1, h2⟩ := h
    exact ⟨v, r ++ us, f1, f2 ++ g, rfl, by rw [List.append_assoc], h1, RpL.append h2 q⟩
theorem RpL.one {d : D} {k : Nat} {v : V} {f : List Addr} (h : Rp K H Hs d k v f) : RpL K H Hs [d] k [v] f := ⟨v, [], f, [], rfl, by simp, h, rfl, rfl⟩
theorem RpL.cons0 {d : D} {ds : List D} {v : V} {vs : List V} (h : Rp K H Hs d 0 v []) (q : RpL K H Hs ds 0 vs []) : RpL K H Hs (d :: ds) 0 (v :: vs) [] := ⟨v, vs, [], [], rfl, rfl, h, q⟩
theorem RpL.nil' {k : Nat} : RpL K H Hs [] k [] [] := ⟨rfl, rfl⟩
theorem RpL.uncons {d : D} {ds : List D} {vs : List V} (h : RpL K H Hs (d :: ds) 0 vs []) : ∃ v r, vs = v :: r ∧ Rp K H Hs d 0 v [] ∧ RpL K H Hs ds 0 r [] := by
  obtain ⟨v, r, f, g, rfl, hfg, h1, h2⟩ := h
  obtain ⟨rfl, rfl⟩ := List.append_eq_nil_iff.mp hfg.symm
  exact ⟨v, r, rfl, h1, h2⟩
theorem RpL.take : ∀ {ds : List D} {vs : List V} (n : Nat), RpL K H Hs ds 0 vs [] → RpL K H Hs (ds.take n) 0 (vs.take n) []
  | _, _, 0, _ => by simp; exact RpL.nil'
  | [], _, n + 1, h => by obtain ⟨rfl, _⟩ := h; simp; exact RpL.nil'
  | d :: ds, vs, n + 1, h => by
    obtain ⟨v, r, rfl, h1, h2⟩ := RpL.uncons h
    exact RpL.cons0 h1 (RpL.take n h2)
theorem RpL.drop : ∀ {ds : List D} {vs : List V} (n : Nat), RpL K H Hs ds 0 vs [] → RpL K H Hs (ds.drop n) 0 (vs.drop n) []
  | _, _, 0, h => by simpa using h
  | [], _, n + 1, h => by obtain ⟨rfl, _⟩ := h; simp; exact RpL.nil'
  | d :: ds, vs, n + 1, h => by
    obtain ⟨v, r, rfl, h1, h2⟩ := RpL.uncons h
    simpa using RpL.drop n h2
theorem RpL.set : ∀ {ds : List D} {vs : List V} {d : D} {v : V} (n : Nat), RpL K H Hs ds 0 vs [] → Rp K H Hs d 0 v [] → RpL K H Hs (ds.set n d) 0 (vs.set n v) []
  | [], _, _, _, n, h, _ => by obtain ⟨rfl, _⟩ := h; simp; exact RpL.nil'
  | d :: ds, vs, _, _, 0, h, q => by
    obtain ⟨v, r, rfl, h1, h2⟩ := RpL.uncons h
    exact RpL.cons0 q h2
  | d :: ds, vs, _, _, n + 1, h, q => by
    obtain ⟨v, r, rfl, h1, h2⟩ := RpL.uncons h
    exact RpL.cons0 h1 (RpL.set n h2 q)
theorem RpL.eraseIdx : ∀ {ds : List D} {vs : List V} (n : Nat), RpL K H Hs ds 0 vs [] → RpL K H Hs (ds.eraseIdx n) 0 (vs.eraseIdx n) []
  | [], _, n, h => by obtain ⟨rfl, _⟩ := h; simp; exact RpL.nil'
  | d :: ds, vs, 0, h => by
    obtain ⟨v, r, rfl, h1, h2⟩ := RpL.uncons h
    exact h2
  | d :: ds, vs, n + 1, h => by
    obtain ⟨v, r, rfl, h1, h2⟩ := RpL.uncons h
    exact RpL.cons0 h1 (RpL.eraseIdx n h2)
theorem RpL.reverse {ds : List D} {vs : List V} (h : RpL K H Hs ds 0 vs []) : RpL K H Hs ds.reverse 0 vs.reverse [] := by
  induction ds generalizing vs with
  | nil => obtain ⟨rfl, _⟩ := h; exact RpL.nil'
  | cons d ds ih =>
    obtain ⟨v, r, rfl, h1, h2⟩ := RpL.uncons h
    rw [List.reverse_cons, List.reverse_cons]
    exact RpL.append (f := []) (g := []) (ih h2) (RpL.one h1)
theorem rp_ints {H Hs : Hp} : ∀ ns : List Int, RpL K H Hs (ns.map D.int) 0 (ns.map V.int) []
  | [] => RpL.nil'
  | n :: r => RpL.cons0 ⟨rfl, rfl⟩ (rp_ints r)
theorem rp_ints_inv {H Hs : Hp} : ∀ {ns : List Int} {vs : List V}, RpL K H Hs (ns.map D.int) 0 vs [] → vs = ns.map V.int
  | [], _, h => h.1
  | n :: r, _, h => by
    obtain ⟨v, w, rfl, h1, h2⟩ := RpL.uncons h
    rw [rp_ints_inv h2, h1.1]; rfl
theorem rp_strs_inv {H Hs : Hp} : ∀ {ns : List Str} {vs : List V}, RpL K H Hs (ns.map D.str) 0 vs [] → vs = ns.map V.str
  | [], _, h => h.1
  | n :: r, _, h => by
    obtain ⟨v, w, rfl, h1, h2⟩ := RpL.uncons h
    rw [rp_strs_inv h2, h1.1]; rfl
theorem rp_strs {H Hs : Hp} : ∀ ns : List Str, RpL K H Hs (ns.map D.str) 0 (ns.map V.str) []
  | [] => RpL.nil'
  | n :: r => RpL.cons0 ⟨rfl, rfl⟩ (rp_strs r)
end

/-! ### what a step may change -/
structure Stp (H Hs : Hp) (fp : List Addr) (H' Hs' : Hp) (fp' : List Addr) : Prop where
  ex : Ex Hs Hs'
  kp : ∀ b o, H b = some o → b ∉ fp → H' b = some o
  nw : ∀ b, Hs' b ≠ none → Hs b ≠ none ∨ b ∈ fp ∨ H b = none
  fr : ∀ b ∈ fp', b ∈ fp ∨ H b = none
  tr : ∀ b, H' b = none → H b = none
theorem Stp.refl (H Hs : Hp) (fp : List Addr) : Stp H Hs fp H Hs fp := ⟨Ex.refl _, fun _ _ h _ => h, fun _ h => .inl h, fun _ h => .inl h, fun _ h => h⟩
theorem Stp.trans {H Hs H1 Hs1 H2 Hs2 : Hp} {fp fp1 fp2 : List Addr} (a : Stp H Hs fp H1 Hs1 fp1) (b : Stp H1 Hs1 fp1 H2 Hs2 fp2) : Stp H Hs fp H2 Hs2 fp2 where
  ex := a.ex.trans b.ex
  kp := fun c o h n => b.kp c o (a.kp c o h n) fun z => by
    rcases a.fr c z with z | z
    · exact n z
    · rw [z] at h; cases h
  nw := fun c h => by
    rcases b.nw c h with h | h | h
    · exact a.nw c h
    · rcases a.fr c h with h | h
      · exact .inr (.inl h)
      · exact .inr (.inr h)
    · by_cases n : c ∈ fp
      · exact .inr (.inl n)
      · refine .inr (.inr ?_)
        cases q : H c with
        | none => rfl
        | some o => rw [a.kp c o q n] at h; cases h
  fr := fun c h => by
    rcases b.fr c h with h | h
    · exact a.fr c h
    · by_cases n : c ∈ fp
      · exact .inl n
      · refine .inr ?_
        cases q : H c with
        | none => rfl
        | some o => rw [a.kp c o q n] at h; cases h
  tr := fun c h => a.tr c (b.tr c h)
/-- more or less is owned -/
theorem Stp.weak {H Hs H' Hs' : Hp} {fp fp' gp gp' : List Addr} (a : Stp H Hs fp H' Hs' fp') (h : ∀ b ∈ fp, b ∈ gp) (h' : ∀ b ∈ gp', b ∈ fp' ∨ b ∈ gp) : Stp H Hs gp H' Hs' gp' where
  ex := a.ex
  kp := fun c o e n => a.kp c o e fun z => n (h c z)
  nw := fun c e => by
    rcases a.nw c e with z | z | z
    · exact .inl z
    · exact .inr (.inl (h c z))
    · exact .inr (.inr z)
  fr := fun c e => by
    rcases h' c e with z | z
    · rcases a.fr c z with z | z
      · exact .inl (h c z)
      · exact .inr z
    · exact .inl z
  tr := a.tr
theorem upd_none {H : Hp} {a b : Addr} {o : HO} (h : upd H a o b = none) : H b = none := by
  unfold upd at h
  split at h
  · cases h
  · exact h
/-- a new object, still -/
theorem Stp.new {H Hs : Hp} {fp : List Addr} {p : Addr} {o : HO} (hp : H p = none) (e : Ex Hs H) : Stp H Hs fp (upd H p o) (upd Hs p o) fp where
  ex := Ex.new (Evl.fresh_back e hp)
  kp := fun c u h _ => by rw [upd_ne (ne_of_none h hp)]; exact h
  nw := fun c h => by
    by_cases z : c = p
    · subst z; exact .inr (.inr hp)
    · rw [upd_ne z] at h; exact .inl h
  fr := fun c h => .inl h
  tr := fun _ h => upd_none h
/-- a new object, owned -/
theorem Stp.newO {H Hs : Hp} {fp : List Addr} {p : Addr} {o : HO} (hp : H p = none) (e : Ex Hs H) : Stp H Hs fp (upd H p o) Hs (fp ++ [p]) where
  ex := Ex.refl _
  kp := fun c u h _ => by rw [upd_ne (ne_of_none h hp)]; exact h
  nw := fun c h => .inl h
  fr := fun c h => by
    rcases List.mem_append.mp h with h | h
    · exact .inl h
    · rw [List.mem_singleton.mp h]; exact .inr hp
  tr := fun _ h => upd_none h
theorem ex_upd2 {H Hs : Hp} {p : Addr} {o : HO} (e : Ex Hs H) : Ex (upd Hs p o) (upd H p o) := fun a u h => by
  by_cases z : a = p
  · subst z; rw [upd_same] at h ⊢; exact h
  · rw [upd_ne z] at h ⊢; exact e a u h
theorem ex_updO {H Hs : Hp} {p : Addr} {o : HO} (e : Ex Hs H) (n : Hs p = none) : Ex Hs (upd H p o) := Ex.mut e n
/-- Hs with H at fp -/
def put (H Hs : Hp) (fp : List Addr) : Hp := fun b => if b ∈ fp then H b else Hs b
theorem put_in {H Hs : Hp} {fp : List Addr} {b : Addr} (h : b ∈ fp) : put H Hs fp b = H b := if_pos h
theorem put_out {H Hs : Hp} {fp : List Addr} {b : Addr} (h : b ∉ fp) : put H Hs fp b = Hs b := if_neg h
theorem put_ex {H Hs : Hp} {fp : List Addr} (e : Ex Hs H) : Ex (put H Hs fp) H := fun a o h => by
  by_cases z : a ∈ fp
  · rw [put_in z] at h; exact h
  · rw [put_out z] at h; exact e a o h
theorem ex_put {H Hs : Hp} {fp : List Addr} (h : ∀ a ∈ fp, Hs a = none) : Ex Hs (put H Hs fp) := fun a o e => by
  by_cases z : a ∈ fp
  · rw [h a z] at e; cases e
  · rw [put_out z]; exact e
theorem Stp.put {H Hs : Hp} {fp gp : List Addr} (h : ∀ a ∈ gp, Hs a = none) (hs : ∀ a ∈ gp, a ∈ fp) : Stp H Hs fp H (put H Hs gp) fp where
  ex := ex_put h
  kp := fun _ _ h _ => h
  nw := fun b e => by
    by_cases z : b ∈ gp
    · exact .inr (.inl (hs b z))
    · rw [put_out z] at e; exact .inl e
  fr := fun _ h => .inl h
  tr := fun _ h => h
end Rf
/-! Rf, part B: frames, operands, what an expression and a statement do as functions of the frame. -/
namespace Rf
open PySem L2
open Evl (Ex)

abbrev En := List (Option (D × Nat))
section
variable (K : PySem.W.Frag) (H Hs : Hp)
def SlR : Option (D × Nat) → Option V → List Addr → Prop
  | none, _, f => f = []
  | some (d, k), s, f => ∃ v, s = some v ∧ Rp K H Hs d k v f
def Sl : En → St → List Addr → Prop
  | [], σ, fp => σ = [] ∧ fp = []
  | x :: e, σ, fp => ∃ s r f g, σ = s :: r ∧ fp = f ++ g ∧ SlR K H Hs x s f ∧ Sl e r g
end
section
variable {K : PySem.W.Frag} {H H' Hs Hs' : Hp}
theorem SlR.frame {x : Option (D × Nat)} {s : Option V} {fp : List Addr} (h : SlR K H Hs x s fp) (e : Ex Hs Hs') (q : ∀ a ∈ fp, H' a = H a ∧ Hs' a = none) : SlR K H' Hs' x s fp := by
  match x, h with
  | none, h => exact h
  | some (d, k), ⟨v, h1, h2⟩ => exact ⟨v, h1, h2.frame e q⟩
theorem SlR.own {x : Option (D × Nat)} {s : Option V} {fp : List Addr} (h : SlR K H Hs x s fp) : ∀ a ∈ fp, Hs a = none ∧ (∃ o, H a = some o ∧ ∀ xs, o ≠ .tup xs) := by
  match x, h with
  | none, h => intro a ha; rw [show fp = [] from h] at ha; cases ha
  | some (d, k), ⟨v, h1, h2⟩ => intro a ha; exact ⟨(h2.own a ha).1, (h2.own a ha).2.1⟩
theorem Sl.frame : ∀ {e : En} {σ : St} {fp : List Addr}, Sl K H Hs e σ fp → Ex Hs Hs' → (∀ a ∈ fp, H' a = H a ∧ Hs' a = none) → Sl K H' Hs' e σ fp
  | [], _, _, h, _, _ => h
  | x :: e, σ, fp, h, ex, q => by
    obtain ⟨s, r, f, g, rfl, rfl, h1, h2⟩ := h
    exact ⟨s, r, f, g, rfl, rfl, h1.frame ex fun a ha => q a (List.mem_append_left _ ha), Sl.frame h2 ex fun a ha => q a (List.mem_append_right _ ha)⟩
theorem Sl.own : ∀ {e : En} {σ : St} {fp : List Addr}, Sl K H Hs e σ fp → ∀ a ∈ fp, Hs a = none ∧ (∃ o, H a = some o ∧ ∀ xs, o ≠ .tup xs)
  | [], _, _, h, a, ha => by rw [h.2] at ha; cases ha
  | x :: e, σ, fp, h, a, ha => by
    obtain ⟨s, r, f, g, rfl, rfl, h1, h2⟩ := h
    rcases List.mem_append.mp ha with ha | ha
    · exact h1.own a ha
    · exact Sl.own h2 a ha
theorem Sl.len : ∀ {e : En} {σ : St} {fp : List Addr}, Sl K H Hs e σ fp → σ.length = e.length
  | [], _, _, h => by rw [h.1]; rfl
  | x :: e, σ, fp, h => by
    obtain ⟨s, r, f, g, rfl, rfl, h1, h2⟩ := h
    rw [List.length_cons, List.length_cons, Sl.len h2]
/-- a slot, and what may be put there -/
theorem Sl.lens : ∀ {e : En} {σ : St} {fp : List Addr} (i : Nat), i < e.length → Sl K H Hs e σ fp → ∃ x s f1 f2 f3, e[i]? = some x ∧ σ[i]? = some s ∧ fp = f1 ++ (f2 ++ f3) ∧ SlR K H Hs x s f2 ∧
    ∀ (H' Hs' : Hp) (x' : Option (D × Nat)) (s' : Option V) (f2' : List Addr), Ex Hs Hs' → (∀ a, a ∈ f1 ∨ a ∈ f3 → H' a = H a ∧ Hs' a = none) → SlR K H' Hs' x' s' f2' → Sl K H' Hs' (e.set i x') (σ.set i s') (f1 ++ (f2' ++ f3))
  | [], _, _, _, hi, _ => by cases hi
  | x :: e, σ, fp, 0, hi, h => by
    obtain ⟨s, r, f, g, rfl, rfl, h1, h2⟩ := h
    refine ⟨x, s, [], f, g, rfl, rfl, rfl, h1, fun H' Hs' x' s' f2' ex q hn => ?_⟩
    exact ⟨s', r, f2', g, rfl, rfl, hn, h2.frame ex fun a ha => q a (.inr ha)⟩
  | x :: e, σ, fp, i + 1, hi, h => by
    obtain ⟨s, r, f, g, rfl, rfl, h1, h2⟩ := h
    obtain ⟨y, t, f1, f2, f3, e1, e2, rfl, e4, k⟩ := Sl.lens i (Nat.lt_of_succ_lt_succ hi) h2
    refine ⟨y, t, f ++ f1, f2, f3, by simpa using e1, by simpa using e2, by rw [List.append_assoc], e4, fun H' Hs' x' s' f2' ex q hn => ?_⟩
    refine ⟨s, r.set i t |>.set i s', f, f1 ++ (f2' ++ f3), ?_, by rw [List.append_assoc], h1.frame ex fun a ha => q a (.inl (List.mem_append_left _ ha)), ?_⟩
    · rw [List.set_set]; rfl
    · rw [List.set_set]
      exact k H' Hs' x' s' f2' ex (fun a ha => q a (ha.elim (fun z => .inl (List.mem_append_right _ z)) .inr)) hn
end

abbrev Pins := List (Nat × V)
/-- the frame e tells what the slots hold -/
structure Rel (K : PySem.W.Frag) (p : Pins) (e : En) (σ : St) (H Hs : Hp) (fp : List Addr) : Prop where
  ex : Ex Hs H
  sl : Sl K H Hs e σ fp
  nd : fp.Nodup
  pn : ∀ q ∈ p, σ[q.1]? = some (some q.2)
inductive Op where
  | sl (i : Nat) | val (d : D) (k : Nat)
/-- what is at hand: a slot's own thing, or a value of its own -/
def RO (K : PySem.W.Frag) (p : Pins) (e : En) (σ : St) (H Hs : Hp) (fp : List Addr) : Op → V → Prop
  | .sl i, v => Rel K p e σ H Hs fp ∧ σ[i]? = some (some v)
  | .val d k, v => ∃ f g, fp = f ++ g ∧ Rel K p e σ H Hs f ∧ Rp K H Hs d k v g ∧ fp.Nodup
def RO1 (K : PySem.W.Frag) (σ : St) (H Hs : Hp) : Op → V → Prop
  | .sl i, v => σ[i]? = some (some v)
  | .val d k, v => k = 0 ∧ Rp K H Hs d 0 v []
def frz : Op → Op
  | .sl i => .sl i
  | .val d _ => .val d 0
inductive Rs (α : Type) where
  | ok (a : α) (e : En)
  | exc (C : Addr) (x : D) (e : En)
abbrev M (α : Type) := En → Option (Rs α)
def M.bind {α β : Type} (m : M α) (f : α → M β) : M β := fun e => match m e with
  | none => none
  | some (.ok a e') => f a e'
  | some (.exc C x e') => some (.exc C x e')
section
variable {K : PySem.W.Frag} {p : Pins} {e e' : En} {σ : St} {H H' Hs Hs' : Hp} {fp fp' : List Addr}
theorem Rel.disj (r : Rel K p e σ H Hs fp) : ∀ a ∈ fp, Hs a = none ∧ ∃ o, H a = some o := fun a ha => ⟨(r.sl.own a ha).1, let ⟨o, h, _⟩ := (r.sl.own a ha).2; ⟨o, h⟩⟩
/-- the frame over a heap that has changed elsewhere -/
theorem Rel.frame (r : Rel K p e σ H Hs fp) (ex : Ex Hs Hs') (ex' : Ex Hs' H') (q : ∀ a ∈ fp, H' a = H a ∧ Hs' a = none) : Rel K p e σ H' Hs' fp := ⟨ex', r.sl.frame ex q, r.nd, r.pn⟩
theorem frzRO {o : Op} {v : V} (h : RO K p e σ H Hs fp o v) : ∃ Hs' fp', Rel K p e σ H Hs' fp' ∧ RO1 K σ H Hs' (frz o) v ∧ Stp H Hs fp H Hs' fp' := by
  match o, h with
  | .sl i, h => exact ⟨Hs, fp, h.1, h.2, Stp.refl _ _ _⟩
  | .val d k, h =>
    obtain ⟨f, g, rfl, r, h1, nd⟩ := h
    have hg : ∀ a ∈ g, Hs a = none := fun a ha => (h1.own a ha).1
    have dis : ∀ a ∈ f, a ∉ g := fun a ha hb => (List.nodup_append.mp nd).2.2 a ha a hb rfl
    refine ⟨put H Hs g, f, r.frame (ex_put hg) (put_ex r.ex) fun a ha => ⟨rfl, by rw [put_out (dis a ha)]; exact (r.disj a ha).1⟩, ⟨rfl, h1.freeze (ex_put hg) fun a ha => put_in ha⟩, ?_⟩
    exact (Stp.put (fp := f ++ g) hg fun a ha => List.mem_append_right _ ha).weak (fun _ h => h) fun b hb => .inr (List.mem_append_left _ hb)
theorem RO1.keep {o : Op} {v : V} (h : RO1 K σ H Hs o v) (ex : Ex Hs Hs') : RO1 K σ H' Hs' o v := by
  match o, h with
  | .sl i, h => exact h
  | .val d k, h => exact ⟨h.1, h.2.still ex⟩
/-- the datum at hand -/
def pk (e : En) : Op → Option (D × Nat)
  | .sl i => match e[i]? with
    | some (some x) => some x
    | _ => none
  | .val d k => some (d, k)
theorem pk_sl {i : Nat} {x : D × Nat} (hp : pk e (.sl i) = some x) : e[i]? = some (some x) := by
  unfold pk at hp
  dsimp only at hp
  split at hp
  · rename_i y hy
    cases hp
    exact hy
  · cases hp
theorem pk_rp {o : Op} {v : V} {x : D × Nat} (r : Rel K p e σ H Hs fp) (h : RO1 K σ H Hs o v) (hp : pk e o = some x) : ∃ f, Rp K H Hs x.1 x.2 v f ∧ ∀ a ∈ f, a ∈ fp := by
  match o, h with
  | .sl i, h =>
    have hy := pk_sl hp
    have hi : i < e.length := (List.getElem?_eq_some_iff.mp hy).1
    obtain ⟨y', s, f1, f2, f3, e1, e2, e3, e4, _⟩ := r.sl.lens i hi
    rw [hy] at e1
    cases e1
    obtain ⟨u, hu, hr⟩ := e4
    rw [show σ[i]? = some (some v) from h] at e2
    cases e2
    cases hu
    exact ⟨f2, hr, fun a ha => by rw [e3]; simp [ha]⟩
  | .val d k, h =>
    cases hp
    obtain ⟨rfl, h⟩ := h
    exact ⟨[], h, fun _ z => nomatch z⟩
end

/-! ### readings of functions of the frame -/
section
variable (K : PySem.W.Frag) (p : Pins) (W : WX)
def XO (H Hs : Hp) (fp : List Addr) (C : Addr) (x : D) (e' : En) : Prop :=
  ∀ σ' dx v H' Hs' fp', Rel K p e' σ' H' Hs' fp' → Rp K H' Hs' x 0 v [] → H' dx = some (.xd [("value", v)]) → H dx = none → Hs' dx = none → dx ∉ fp' → Stp H Hs fp H' Hs' fp' → W (.ref C) (some dx) σ' H'
def kM {α : Type} (H Hs : Hp) (fp : List Addr) (m : Option (Rs α)) (k : α → En → Prop) : Prop := match m with
  | none => False
  | some (.ok a e') => k a e'
  | some (.exc C x e') => XO K p W H Hs fp C x e'
def tM (m : M Op) : TE := fun σ H Q => ∃ e Hs fp, Rel K p e σ H Hs fp ∧ kM K p W H Hs fp (m e) fun o e' => ∀ v H' Hs' fp', RO K p e' σ H' Hs' fp' o v → Stp H Hs fp H' Hs' fp' → Q v H'
def ROs (e : En) (σ : St) (H Hs : Hp) (fp : List Addr) (os : List Op) (vs : List V) : Prop := Rel K p e σ H Hs fp ∧ Paired (RO1 K σ H Hs) os vs
def tMA (m : M (List Op)) : TA := fun σ H Q => ∃ e Hs fp, Rel K p e σ H Hs fp ∧ kM K p W H Hs fp (m e) fun os e' => ∀ vs H' Hs' fp', ROs K p e' σ H' Hs' fp' os vs → Stp H Hs fp H' Hs' fp' → Q vs H'
def tMT (m : M Bool) : TT := fun σ H Q => ∃ e Hs fp, Rel K p e σ H Hs fp ∧ kM K p W H Hs fp (m e) fun b e' => ∀ H' Hs' fp', Rel K p e' σ H' Hs' fp' → Stp H Hs fp H' Hs' fp' → Q b H'
/-- how a statement ends -/
inductive Fl where
  | nx | brk | ct | ret (d : D) (k : Nat)
def kS (Dn : Ends) (H Hs : Hp) (fp : List Addr) (f : Fl) (e' : En) : Prop := match f with
  | .nx => ∀ σ' H' Hs' fp', Rel K p e' σ' H' Hs' fp' → Stp H Hs fp H' Hs' fp' → Dn.nx σ' H'
  | .brk => ∀ σ' H' Hs' fp', Rel K p e' σ' H' Hs' fp' → Stp H Hs fp H' Hs' fp' → Dn.bk σ' H'
  | .ct => ∀ σ' H' Hs' fp', Rel K p e' σ' H' Hs' fp' → Stp H Hs fp H' Hs' fp' → Dn.ct σ' H'
  | .ret d k => ∀ v σ' H' Hs' fp', RO K p e' σ' H' Hs' fp' (.val d k) v → Stp H Hs fp H' Hs' fp' → Dn.rt v H'
def tMS (m : M Fl) : TS := fun Dn σ H => ∃ e Hs fp, Rel K p e σ H Hs fp ∧ kM K p W H Hs fp (m e) fun f e' => kS K p Dn H Hs fp f e'
end
section
variable {K : PySem.W.Frag} {p : Pins} {W : WX} {e e' : En} {σ : St} {H H1 H' Hs Hs1 Hs' : Hp} {fp fp1 fp' : List Addr}
theorem XO.after {C : Addr} {x : D} (h : XO K p W H Hs fp C x e') (s : Stp H Hs fp H1 Hs1 fp1) : XO K p W H1 Hs1 fp1 C x e' := fun σ' dx v H' Hs' fp' r hx hd hn hs hf st =>
  h σ' dx v H' Hs' fp' r hx hd (s.tr _ hn) hs hf (s.trans st)
theorem kM.imp {α : Type} {m : Option (Rs α)} {k k' : α → En → Prop} (h : kM K p W H Hs fp m k) (s : Stp H Hs fp H1 Hs1 fp1) (hk : ∀ a e, k a e → k' a e) : kM K p W H1 Hs1 fp1 m k' := by
  match m, h with
  | some (.ok a e), h => exact hk a e h
  | some (.exc C x e), h => exact XO.after h s
theorem kM.imp2 {α : Type} {m : Option (Rs α)} {k k' : α → En → Prop} (h : kM K p W H Hs fp m k) (s : Stp H Hs fp H1 Hs1 fp1) (hk : ∀ a e, m = some (.ok a e) → k a e → k' a e) : kM K p W H1 Hs1 fp1 m k' := by
  match m, h, hk with
  | some (.ok a e), h, hk => exact hk a e rfl h
  | some (.exc C x e), h, _ => exact XO.after h s
theorem kM.bind {α β : Type} {m : M α} {f : α → M β} {k : β → En → Prop} (h : kM K p W H Hs fp (m.bind f e) k) : kM K p W H Hs fp (m e) fun a e' => kM K p W H Hs fp (f a e') k := by
  unfold M.bind at h
  split at h
  · exact h.elim
  · rename_i a e' hm
    rw [hm]
    exact h
  · rename_i C x e' hm
    rw [hm]
    exact h
theorem tM.mono {m : M Op} {Q Q' : VK} (h : tM K p W m σ H Q) (hq : ∀ v H, Q v H → Q' v H) : tM K p W m σ H Q' := by
  obtain ⟨e, Hs, fp, r, h⟩ := h
  exact ⟨e, Hs, fp, r, h.imp (Stp.refl _ _ _) fun o e' q v H' Hs' fp' hr s => hq _ _ (q v H' Hs' fp' hr s)⟩
/-- from the first part to the rest, the first part put still -/
theorem tM.then' {m : M Op} {β : Type} {f : Op → M β} {k : β → En → Prop} {Q : VK} (r : Rel K p e σ H Hs fp) (h : kM K p W H Hs fp (m.bind f e) k)
    (next : ∀ o e' x H' Hs' fp', kM K p W H' Hs' fp' (f o e') k → Rel K p e' σ H' Hs' fp' → RO1 K σ H' Hs' (frz o) x → Stp H Hs fp H' Hs' fp' → Q x H') : tM K p W m σ H Q := by
  refine ⟨e, Hs, fp, r, h.bind.imp (Stp.refl _ _ _) fun o e' q v H' Hs' fp' hr s => ?_⟩
  obtain ⟨Hs2, fp2, r2, h2, s2⟩ := frzRO hr
  have st := s.trans s2
  exact next o e' v H' Hs2 fp2 (q.imp st fun _ _ z => z) r2 h2 st
/-- operands, from the left, each put still -/
def mNil : M (List Op) := fun e => some (.ok [] e)
def mCons (m : M Op) (ms : M (List Op)) : M (List Op) := m.bind fun o => ms.bind fun os e => some (.ok (frz o :: os) e)
theorem tMA_nil {Q : List V → Hp → Prop} (h : tMA K p W mNil σ H Q) : Q [] H := by
  obtain ⟨e, Hs, fp, r, h⟩ := h
  exact h [] H Hs fp ⟨r, .nil⟩ (Stp.refl _ _ _)
theorem paired_keep {os : List Op} {vs : List V} (h : Paired (RO1 K σ H Hs) os vs) (ex : Ex Hs Hs') : Paired (RO1 K σ H' Hs') os vs := by
  induction h with
  | nil => exact .nil
  | cons h _ ih => exact .cons (h.keep ex) ih
theorem tMA_cons {m : M Op} {ms : M (List Op)} {Q : List V → Hp → Prop} (h : tMA K p W (mCons m ms) σ H Q) : tM K p W m σ H fun x H1 => tMA K p W ms σ H1 fun xs H2 => Q (x :: xs) H2 := by
  obtain ⟨e, Hs, fp, r, h⟩ := h
  refine tM.then' r h fun o e' x H' Hs' fp' h2 r2 h1 s => ?_
  refine ⟨e', Hs', fp', r2, h2.bind.imp (Stp.refl _ _ _) fun os e'' q vs H'' Hs'' fp'' hr s2 => ?_⟩
  exact q (x :: vs) H'' Hs'' fp'' ⟨hr.1, .cons (h1.keep s2.ex) hr.2⟩ (s.trans s2)
theorem tMA_0 {Q : List V → Hp → Prop} (h : tMA K p W mNil σ H Q) : tNil σ H Q := tMA_nil h
/-- what a function of the operands gives -/
def mDo (ms : M (List Op)) (f : En → List Op → Option (Rs Op)) : M Op := ms.bind fun os e => f e os
/-- the data of the operands; lim: none owned deeper than once -/
def pkL (lim : Bool) (e : En) : List Op → Option (List D)
  | [] => some []
  | o :: os => match pk e o with
    | none => none
    | some (d, k) => if lim && decide (1 < k) then none else match pkL lim e os with
      | none => none
      | some ds => some (d :: ds)
/-- seen shallowly -/
def V1 (K : PySem.W.Frag) (H Hs : Hp) (lim : Bool) (d : D) (v : V) : Prop := ∃ k f, (lim = true → k ≤ 1) ∧ Rp K H Hs d k v f
theorem pkL_rp {lim : Bool} : ∀ {os : List Op} {vs : List V} {ds : List D}, Rel K p e σ H Hs fp → Paired (RO1 K σ H Hs) os vs → pkL lim e os = some ds → Paired (V1 K H Hs lim) ds vs
  | [], _, _, r, h, hp => by
    cases h
    cases hp
    exact .nil
  | o :: os, _, ds, r, h, hp => by
    cases h with
    | cons h1 h2 =>
      unfold pkL at hp
      split at hp
      · cases hp
      · rename_i d k hk
        split at hp
        · cases hp
        · rename_i hl
          split at hp
          · cases hp
          · rename_i ds' hd
            cases hp
            obtain ⟨f, hr, _⟩ := pk_rp r h1 hk
            refine .cons ⟨k, f, fun hlim => ?_, hr⟩ (pkL_rp r h2 hd)
            rw [hlim] at hl
            simp at hl
            exact hl
/-- what a rule of values hands on: a new thing -/
def Out (K : PySem.W.Frag) (H Hs : Hp) (r : D × Nat) (Q : VK) : Prop := ∀ v H' Hs' g, Ex Hs' H' → Rp K H' Hs' r.1 r.2 v g → g.Nodup → Stp H Hs [] H' Hs' g → Q v H'
theorem Out.ro {d : D} {k : Nat} {v : V} {g : List Addr} (r : Rel K p e σ H Hs fp) (ex : Ex Hs' H') (h : Rp K H' Hs' d k v g) (nd : g.Nodup) (s : Stp H Hs [] H' Hs' g) : RO K p e σ H' Hs' (fp ++ g) (.val d k) v ∧ Stp H Hs fp H' Hs' (fp ++ g) := by
  have q : ∀ a ∈ fp, H' a = H a ∧ Hs' a = none := fun a ha => by
    obtain ⟨h1, o, h2⟩ := r.disj a ha
    refine ⟨(s.kp a o h2 (by simp)).trans h2.symm, ?_⟩
    cases z : Hs' a with
    | none => rfl
    | some u =>
      rcases s.nw a (by rw [z]; simp) with n | n | n
      · exact absurd h1 n
      · cases n
      · rw [h2] at n; cases n
  refine ⟨⟨fp, g, rfl, r.frame s.ex ex q, h, List.nodup_append.mpr ⟨r.nd, nd, fun a ha b hb e => ?_⟩⟩, s.weak (fun _ z => nomatch z) fun b hb => ?_⟩
  · subst e
    rcases s.fr a hb with z | z
    · cases z
    · obtain ⟨_, o, h2⟩ := r.disj a ha
      rw [h2] at z; cases z
  · rcases List.mem_append.mp hb with z | z
    · exact .inr z
    · exact .inl z
/-- a plain answer -/
def oK {α : Type} (o : Option α) : M α := fun e => match o with
  | none => none
  | some a => some (.ok a e)
theorem kM_oK {α : Type} {o : Option α} {k : α → En → Prop} (h : kM K p W H Hs fp (oK o e) k) : ∃ a, o = some a ∧ k a e := by
  cases o with
  | none => exact h.elim
  | some a => exact ⟨a, rfl, h⟩
/-- a function of data: f gives the datum and how deep it is owned -/
def mF (lim : Bool) (f : List D → Option (D × Nat)) (ms : M (List Op)) : M Op := mDo ms fun e os => oK (((pkL lim e os).bind f).map fun r => Op.val r.1 r.2) e
theorem tM_F {lim : Bool} {f : List D → Option (D × Nat)} {ms : M (List Op)} {Q : VK} (h : tM K p W (mF lim f ms) σ H Q) :
    tMA K p W ms σ H fun vs H1 => ∃ Hs ds r, Ex Hs H1 ∧ Paired (V1 K H1 Hs lim) ds vs ∧ f ds = some r ∧ Out K H1 Hs r Q := by
  obtain ⟨e, Hs, fp, r, h⟩ := h
  refine ⟨e, Hs, fp, r, h.bind.imp (Stp.refl _ _ _) fun os e' q vs H' Hs' fp' hr s => ?_⟩
  obtain ⟨o, ho, q'⟩ := kM_oK q
  obtain ⟨rr, h1, rfl⟩ := Option.map_eq_some_iff.mp ho
  obtain ⟨ds, hd, hf⟩ := Option.bind_eq_some_iff.mp h1
  refine ⟨Hs', ds, rr, hr.1.ex, pkL_rp hr.1 hr.2 hd, hf, fun v H2 Hs2 g ex hg nd s2 => ?_⟩
  obtain ⟨h1, h2⟩ := Out.ro hr.1 ex hg nd s2
  exact q' v H2 Hs2 _ h1 (s.trans h2)
end
/-! ### judgements -/
structure RE (X : Cx) (p : Pins) (W : WX) (x : Expr) (m : M Op) : Prop where
  pe : PE X x (tM X.K p W m)
structure RA (X : Cx) (p : Pins) (W : WX) (x : List Expr) (m : M (List Op)) : Prop where
  pa : PA X x (tMA X.K p W m)
  len : ∀ e os e', m e = some (.ok os e') → os.length = x.length
structure RT (X : Cx) (p : Pins) (W : WX) (x : Expr) (m : M Bool) : Prop where
  pt : PT X x (tMT X.K p W m)
structure RS (X : Cx) (p : Pins) (W : WX) (x : Stmt) (m : M Fl) : Prop where
  ps : PS X x (tMS X.K p W m)
structure RSs (X : Cx) (p : Pins) (W : WX) (x : List Stmt) (m : M Fl) : Prop where
  ps : PSs X x (tMS X.K p W m)
section
variable {X : Cx}
theorem PE_imp {x : Expr} {t t' : TE} (h : PE X x t) (hi : ∀ σ H Q, t' σ H Q → t σ H Q) : PE X x t' := ⟨fun pins s σ H Q I q => h.run pins s σ H Q I (hi σ H Q q)⟩
theorem PT_imp {x : Expr} {t t' : TT} (h : PT X x t) (hi : ∀ σ H Q, t' σ H Q → t σ H Q) : PT X x t' := ⟨fun pins s σ H Q I q => h.run pins s σ H Q I (hi σ H Q q)⟩
theorem PW_imp {x : Expr} {t t' : TT} (h : PW X x t) (hi : ∀ σ H Q, t' σ H Q → t σ H Q) : PW X x t' := ⟨fun w pins s σ H Q I q => h.run w pins s σ H Q I (hi σ H Q q)⟩
theorem PA_imp {x : List Expr} {t t' : TA} (h : PA X x t) (hi : ∀ σ H Q, t' σ H Q → t σ H Q) : PA X x t' := ⟨fun pos pins s σ H Q I q => h.run pos pins s σ H Q I (hi σ H Q q)⟩
theorem PS_imp {x : Stmt} {t t' : TS} (h : PS X x t) (hi : ∀ σ H D, t' D σ H → t D σ H) : PS X x t' := ⟨fun pins s σ H D I q => h.run pins s σ H D I (hi σ H D q)⟩
theorem PSs_imp {x : List Stmt} {t t' : TS} (h : PSs X x t) (hi : ∀ σ H D, t' D σ H → t D σ H) : PSs X x t' := ⟨fun pins s σ H D I q => h.run pins s σ H D I (hi σ H D q)⟩
variable {p : Pins} {W : WX}
/-- a written value -/
def mC (d : D) : M Op := fun e => some (.ok (.val d 0) e)
theorem re_c {x : Expr} {v : V} {d : D} (h : PE X x (tC v)) (hd : ∀ K H Hs, Rp K H Hs d 0 v []) : RE X p W x (mC d) := ⟨PE_imp h fun σ H Q q => by
  obtain ⟨e, Hs, fp, r, q⟩ := q
  exact q v H Hs fp ⟨fp, [], by simp, r, hd _ _ _, r.nd⟩ (Stp.refl _ _ _)⟩
theorem re_int {i j pos} : RE X p W (.Constant (.int i) j pos) (mC (.int i)) := re_c pe_int fun _ _ _ => ⟨rfl, rfl⟩
theorem re_bl {b j pos} : RE X p W (.Constant (.bool b) j pos) (mC (.bl b)) := re_c pe_bl fun _ _ _ => ⟨rfl, rfl⟩
theorem re_non {j pos} : RE X p W (.Constant .none j pos) (mC .non) := re_c pe_non fun _ _ _ => ⟨rfl, rfl⟩
theorem re_str {x j pos} : RE X p W (.Constant (.str x) j pos) (mC (.str x)) := re_c pe_str fun _ _ _ => ⟨rfl, rfl⟩
/-- a name's slot -/
def mV (i : Nat) : M Op := fun e => match e[i]? with
  | some (some _) => some (.ok (.sl i) e)
  | _ => none
theorem re_v (i : Nat) {x : Str} {pos : Pos} (h : PE X (.Name x pos) (tVar i) := by exact pv _) : RE X p W (.Name x pos) (mV i) := ⟨PE_imp h fun σ H Q q => by
  obtain ⟨e, Hs, fp, r, q⟩ := q
  unfold kM mV at q
  split at q
  · exact q.elim
  · rename_i o e' hm
    split at hm
    · rename_i y hy
      cases hm
      have hi : i < e.length := (List.getElem?_eq_some_iff.mp hy).1
      obtain ⟨y', s, f1, f2, f3, e1, e2, e3, e4, _⟩ := r.sl.lens i hi
      rw [hy] at e1
      cases e1
      obtain ⟨u, hu, hr⟩ := e4
      rw [hu] at e2
      exact ⟨u, e2, q u H Hs fp ⟨r, e2⟩ (Stp.refl _ _ _)⟩
    · cases hm
  · rename_i C x e' hm
    split at hm <;> cases hm⟩
theorem ra_nil : RA X p W [] mNil := ⟨PA_imp pa_nil fun σ H Q q => tMA_nil q, fun e os e' h => by cases h; rfl⟩
theorem ra_cons {x : Expr} {xs : List Expr} {m : M Op} {ms : M (List Op)} (h : RE X p W x m) (hr : RA X p W xs ms) (hs : starEach (x :: xs) X.env = (false, eval x X.env) :: starEach xs X.env := by rfl) : RA X p W (x :: xs) (mCons m ms) :=
  ⟨PA_imp (pa_cons h.pe hr.pa hs) fun σ H Q q => tMA_cons q, fun e os e' q => by
    unfold mCons M.bind at q
    split at q
    · cases q
    · rename_i o e1 h1
      dsimp only at q
      split at q
      · cases q
      · rename_i os' e2 h2
        cases q
        rw [List.length_cons, List.length_cons, hr.len _ _ _ h2]
      · cases q
    · cases q⟩
/-! ### operators -/
/-- a rule of two values does what f says -/
def Op2S (K : PySem.W.Frag) (r : R2) (lim : Bool) (f : List D → Option (D × Nat)) : Prop := ∀ x y H Hs a b z Q, Ex Hs H → V1 K H Hs lim a x → V1 K H Hs lim b y → f [a, b] = some z → Out K H Hs z Q → r x y H Q
theorem t_op {r : R2} {lim : Bool} {f : List D → Option (D × Nat)} {ma mb : M Op} {σ : St} {H : Hp} {Q : VK} (hr : Op2S X.K r lim f) (q : tM X.K p W (mF lim f (mCons ma (mCons mb mNil))) σ H Q) : tOp r (tM X.K p W ma) (tM X.K p W mb) σ H Q := by
  refine (tMA_cons (tM_F q)).mono fun x H1 q1 => (tMA_cons q1).mono fun y H2 q2 => ?_
  obtain ⟨Hs, ds, z, ex, hp, hf, ho⟩ := tMA_nil q2
  cases hp with
  | cons h1 hp =>
    cases hp with
    | cons h2 hp =>
      cases hp
      exact hr _ _ _ _ _ _ _ _ ex h1 h2 hf ho
theorem re_op {op : Operator} {a b : Expr} {pos : Pos} {r : R2} {lim : Bool} {f : List D → Option (D × Nat)} {ma mb : M Op} (ho : OpR X (binaryOp op) r) (hr : Op2S X.K r lim f) (ha : RE X p W a ma) (hb : RE X p W b mb) : RE X p W (.BinOp a op b pos) (mF lim f (mCons ma (mCons mb mNil))) :=
  ⟨PE_imp (pe_op ho ha.pe hb.pe) fun σ H Q q => t_op hr q⟩
theorem re_cmp {op : CmpOp} {a b : Expr} {pos : Pos} {r : R2} {lim : Bool} {f : List D → Option (D × Nat)} {ma mb : M Op} (ho : OpR X (compareOp op) r) (hr : Op2S X.K r lim f) (ha : RE X p W a ma) (hb : RE X p W b mb) (hm : behindInMarks op b = false := by first | exact nomark _ | rfl) : RE X p W (.Compare a [op] [b] pos) (mF lim f (mCons ma (mCons mb mNil))) :=
  ⟨PE_imp (pe_cmpR ho ha.pe hb.pe hm) fun σ H Q q => t_op hr q⟩
def Op1S (K : PySem.W.Frag) (r : V → Hp → VK → Prop) (lim : Bool) (f : List D → Option (D × Nat)) : Prop := ∀ x H Hs a z Q, Ex Hs H → V1 K H Hs lim a x → f [a] = some z → Out K H Hs z Q → r x H Q
theorem re_un {op : UnaryOp} {a : Expr} {pos : Pos} {r : V → Hp → VK → Prop} {lim : Bool} {f : List D → Option (D × Nat)} {ma : M Op} (ho : UnR X (unaryOp op) r) (hr : Op1S X.K r lim f) (ha : RE X p W a ma) : RE X p W (.UnaryOp op a pos) (mF lim f (mCons ma mNil)) :=
  ⟨PE_imp (pe_un ho ha.pe) fun σ H Q q => (tMA_cons (tM_F q)).mono fun x H1 q1 => by
    obtain ⟨Hs, ds, z, ex, hp, hf, ho⟩ := tMA_nil q1
    cases hp with
    | cons h1 hp =>
      cases hp
      exact hr _ _ _ _ _ _ ex h1 hf ho⟩
def CallS (K : PySem.W.Frag) (r : List V → Hp → VK → Prop) (lim : Bool) (f : List D → Option (D × Nat)) : Prop := ∀ xs H Hs ds z Q, Ex Hs H → Paired (V1 K H Hs lim) ds xs → f ds = some z → Out K H Hs z Q → r xs H Q
theorem t_cb {r : List V → Hp → VK → Prop} {lim : Bool} {f : List D → Option (D × Nat)} {ms : M (List Op)} {σ : St} {H : Hp} {Q : VK} (hr : CallS X.K r lim f) (q : tM X.K p W (mF lim f ms) σ H Q) : tCB r (tMA X.K p W ms) σ H Q := by
  obtain ⟨e, Hs, fp, rr, q1⟩ := tM_F q
  exact ⟨e, Hs, fp, rr, q1.imp (Stp.refl _ _ _) fun os e' k vs H' Hs' fp' hr' s => by
    obtain ⟨Hs2, ds, z, ex, hp, hf, ho⟩ := k vs H' Hs' fp' hr' s
    exact hr _ _ _ _ _ _ ex hp hf ho⟩
end
end Rf
/-! Rf, part C: statements, tests, loops, comprehensions. -/
namespace Rf
open PySem L2
open Evl (Ex)
section
variable {K : PySem.W.Frag} {p : Pins} {W : WX} {e e' : En} {σ : St} {H H1 H' Hs Hs1 Hs' : Hp} {fp fp1 fp' : List Addr} {Dn : Ends}
theorem kS.after {f : Fl} (h : kS K p Dn H Hs fp f e) (s : Stp H Hs fp H1 Hs1 fp1) : kS K p Dn H1 Hs1 fp1 f e := by
  cases f with
  | nx => exact fun σ' H' Hs' fp' r st => h σ' H' Hs' fp' r (s.trans st)
  | brk => exact fun σ' H' Hs' fp' r st => h σ' H' Hs' fp' r (s.trans st)
  | ct => exact fun σ' H' Hs' fp' r st => h σ' H' Hs' fp' r (s.trans st)
  | ret d k => exact fun v σ' H' Hs' fp' r st => h v σ' H' Hs' fp' r (s.trans st)
theorem kM.after {α : Type} {m : Option (Rs α)} {k k' : α → En → Prop} (h : kM K p W H Hs fp m k) (s : Stp H Hs fp H1 Hs1 fp1) (hk : ∀ a e, k a e → k' a e) : kM K p W H1 Hs1 fp1 m k' := h.imp s hk

/-! ### taking an operand over -/
/-- taken to be kept elsewhere: a slot's own thing is put still -/
def tk (o : Op) : M (D × Nat) := fun e => match o with
  | .val d k => some (.ok (d, k) e)
  | .sl i => match e[i]? with
    | some (some (d, _)) => some (.ok (d, 0) (e.set i (some (d, 0))))
    | _ => none
theorem set_self {σ : St} {i : Nat} {s : Option V} (h : σ[i]? = some s) : σ.set i s = σ := by
  obtain ⟨hi, e⟩ := List.getElem?_eq_some_iff.mp h
  rw [← e]
  exact List.set_getElem_self hi
/-- a slot's own thing is put still -/
theorem Rel.freeze {i : Nat} {d : D} {k : Nat} (r : Rel K p e σ H Hs fp) (h : e[i]? = some (some (d, k))) : ∃ v Hs' fp', σ[i]? = some (some v) ∧ Rel K p (e.set i (some (d, 0))) σ H Hs' fp' ∧ Rp K H Hs' d 0 v [] ∧ Stp H Hs fp H Hs' fp' := by
  have hi : i < e.length := (List.getElem?_eq_some_iff.mp h).1
  obtain ⟨x, s, f1, f2, f3, e1, e2, rfl, e4, put'⟩ := r.sl.lens i hi
  rw [h] at e1
  cases e1
  obtain ⟨v, rfl, hr⟩ := e4
  have hg : ∀ a ∈ f2, Hs a = none := fun a ha => (hr.own a ha).1
  have nd := r.nd
  have d13 : ∀ a, a ∈ f1 ∨ a ∈ f3 → a ∉ f2 := fun a ha hb => by
    have n1 := (List.nodup_append.mp nd)
    rcases ha with ha | ha
    · exact n1.2.2 a ha a (List.mem_append_left _ hb) rfl
    · exact (List.nodup_append.mp n1.2.1).2.2 a hb a ha rfl
  have st : Rp K H (Rf.put H Hs f2) d 0 v [] := hr.freeze (ex_put hg) fun a ha => put_in ha
  refine ⟨v, Rf.put H Hs f2, f1 ++ ([] ++ f3), e2, ⟨put_ex r.ex, ?_, ?_, r.pn⟩, st, ?_⟩
  · have := put' H (Rf.put H Hs f2) (some (d, 0)) (some v) [] (ex_put hg) (fun a ha => ⟨rfl, by rw [put_out (d13 a ha)]; exact (r.disj a (by rcases ha with ha | ha <;> simp [ha])).1⟩) ⟨v, rfl, st⟩
    rw [set_self e2] at this
    exact this
  · have n1 := List.nodup_append.mp nd
    refine List.nodup_append.mpr ⟨n1.1, (List.nodup_append.mp n1.2.1).2.1, fun a ha b hb => n1.2.2 a ha b (List.mem_append_right _ hb)⟩
  · exact (Stp.put (fp := f1 ++ (f2 ++ f3)) hg fun a ha => by simp [ha]).weak (fun _ h => h) fun b hb => .inr (by simp at hb ⊢; rcases hb with hb | hb <;> simp [hb])
theorem tk_ok {o : Op} {v : V} {k : D × Nat → En → Prop} (h : RO K p e σ H Hs fp o v) (q : kM K p W H Hs fp (tk o e) k) : ∃ d j e' Hs' fp', RO K p e' σ H Hs' fp' (.val d j) v ∧ Stp H Hs fp H Hs' fp' ∧ k (d, j) e' := by
  match o, h, q with
  | .val d j, h, q => exact ⟨d, j, e, Hs, fp, h, Stp.refl _ _ _, q⟩
  | .sl i, h, q =>
    unfold tk at q
    dsimp only at q
    split at q
    · rename_i d j hd
      obtain ⟨v', Hs', fp', e2, r, hr, st⟩ := h.1.freeze hd
      rw [h.2] at e2
      cases e2
      exact ⟨d, 0, _, Hs', fp', ⟨fp', [], by simp, r, hr, r.nd⟩, st, q⟩
    · exact q.elim
/-- put into a slot -/
def stS (i : Nat) (x : D × Nat) : M Unit := fun e => if i < e.length then some (.ok () (e.set i (some x))) else none
theorem stS_ok {i : Nat} {d : D} {j : Nat} {v : V} {k : Unit → En → Prop} (hp : ∀ q ∈ p, q.1 ≠ i) (h : RO K p e σ H Hs fp (.val d j) v) (q : kM K p W H Hs fp (stS i (d, j) e) k) :
    ∃ fp', Rel K p (e.set i (some (d, j))) (σ.set i (some v)) H Hs fp' ∧ Stp H Hs fp H Hs fp' ∧ k () (e.set i (some (d, j))) := by
  unfold stS at q
  split at q
  · rename_i hi
    obtain ⟨f, g, rfl, r, hr, nd⟩ := h
    obtain ⟨x, s, f1, f2, f3, e1, e2, rfl, e4, put'⟩ := r.sl.lens i hi
    have sl := put' H Hs (some (d, j)) (some v) g (Ex.refl _) (fun a ha => ⟨rfl, (r.disj a (by rcases ha with ha | ha <;> simp [ha])).1⟩) ⟨v, rfl, hr⟩
    refine ⟨_, ⟨r.ex, sl, ?_, fun y hy => ?_⟩, (Stp.refl _ _ _).weak (fun _ h => h) fun b hb => .inr ?_, q⟩
    · have n1 := List.nodup_append.mp nd
      have n2 := List.nodup_append.mp n1.1
      have n3 := List.nodup_append.mp n2.2.1
      refine List.nodup_append.mpr ⟨n2.1, List.nodup_append.mpr ⟨n1.2.1, n3.2.1, fun a ha b hb e => ?_⟩, fun a ha b hb e => ?_⟩
      · exact n1.2.2 b (by simp [hb]) a ha e.symm
      · rcases List.mem_append.mp hb with hb | hb
        · exact n1.2.2 a (by simp [ha]) b hb e
        · exact n2.2.2 a ha b (by simp [hb]) e
    · rw [List.getElem?_set_ne (Ne.symm (hp y hy))]
      exact r.pn y hy
    · simp at hb ⊢
      rcases hb with hb | hb | hb <;> simp [hb]
  · exact q.elim
end
section
variable {X : Cx} {p : Pins} {W : WX}
/-! ### blocks -/
def mSeq (m n : M Fl) : M Fl := m.bind fun f => match f with
  | .nx => n
  | f => fun e => some (.ok f e)
def mNx : M Fl := fun e => some (.ok .nx e)
theorem rss_nil : RSs X p W [] mNx := ⟨PSs_imp pss_nil fun σ H D q => by
  obtain ⟨e, Hs, fp, r, q⟩ := q
  exact q σ H Hs fp r (Stp.refl _ _ _)⟩
theorem t_seq {m n : M Fl} {D : Ends} {σ : St} {H : Hp} (q : tMS X.K p W (mSeq m n) D σ H) : tSeq (tMS X.K p W m) (tMS X.K p W n) D σ H := by
  obtain ⟨e, Hs, fp, r, q⟩ := q
  refine ⟨e, Hs, fp, r, q.bind.imp (Stp.refl _ _ _) fun f e' k => ?_⟩
  cases f with
  | nx => exact fun σ' H' Hs' fp' r' s => ⟨e', Hs', fp', r', kM.imp k s fun f e h => h.after s⟩
  | brk => exact k
  | ct => exact k
  | ret d j => exact k
theorem rss_cons {s : Stmt} {ss : List Stmt} {m n : M Fl} (h : RS X p W s m) (hr : RSs X p W ss n) : RSs X p W (s :: ss) (mSeq m n) := ⟨PSs_imp (pss_cons h.ps hr.ps) fun σ H D q => t_seq q⟩
theorem rss_one {s : Stmt} {m : M Fl} (h : RS X p W s m) : RSs X p W [s] m := ⟨pss_one h.ps⟩
def mPure (f : Fl) : M Fl := fun e => some (.ok f e)
theorem rs_pass {pos : Pos} : RS X p W (.Pass pos) mNx := ⟨PS_imp ps_pass fun σ H D q => by
  obtain ⟨e, Hs, fp, r, q⟩ := q
  exact q σ H Hs fp r (Stp.refl _ _ _)⟩
theorem rs_break {pos : Pos} : RS X p W (.Break pos) (mPure .brk) := ⟨PS_imp ps_break fun σ H D q => by
  obtain ⟨e, Hs, fp, r, q⟩ := q
  exact q σ H Hs fp r (Stp.refl _ _ _)⟩
theorem rs_continue {pos : Pos} : RS X p W (.Continue pos) (mPure .ct) := ⟨PS_imp ps_continue fun σ H D q => by
  obtain ⟨e, Hs, fp, r, q⟩ := q
  exact q σ H Hs fp r (Stp.refl _ _ _)⟩
theorem rs_doc {x j pos pos'} : RS X p W (.Expr (.Constant (.str x) j pos) pos') mNx := ⟨PS_imp ps_doc fun σ H D q => by
  obtain ⟨e, Hs, fp, r, q⟩ := q
  exact q σ H Hs fp r (Stp.refl _ _ _)⟩
def mExpr (m : M Op) : M Fl := m.bind fun _ => mNx
theorem rs_expr {x : Expr} {m : M Op} {pos : Pos} (h : RE X p W x m) (hs : swapsWith x none pos.line X.env = pure false := by rfl) : RS X p W (.Expr x pos) (mExpr m) := ⟨PS_imp (ps_expr h.pe hs) fun σ H D q => by
  obtain ⟨e, Hs, fp, r, q⟩ := q
  refine ⟨e, Hs, fp, r, q.bind.imp (Stp.refl _ _ _) fun o e' k v H' Hs' fp' ro s => ?_⟩
  obtain ⟨Hs2, fp2, r2, _, s2⟩ := frzRO ro
  exact k σ H' Hs2 fp2 r2 (s.trans s2)⟩
/-- return: a slot's own thing goes out -/
def gv (o : Op) : M Fl := fun e => match o with
  | .val d k => some (.ok (.ret d k) e)
  | .sl i => match e[i]? with
    | some (some (d, k)) => some (.ok (.ret d k) (if k = 0 then e else e.set i none))
    | _ => none
def mRet (m : M Op) : M Fl := m.bind gv
theorem gv_ok {K : PySem.W.Frag} {e : En} {σ : St} {H Hs H0 Hs0 : Hp} {fp fp0 : List Addr} {o : Op} {v : V} {D : Ends} (h : RO K p e σ H Hs fp o v) (s : Stp H0 Hs0 fp0 H Hs fp) (q : kM K p W H0 Hs0 fp0 (gv o e) fun f e' => kS K p D H0 Hs0 fp0 f e') : D.rt v H := by
  match o, h, q with
  | .val d j, h, q => exact q v σ H Hs fp h s
  | .sl i, h, q =>
    unfold gv at q
    dsimp only at q
    split at q
    · rename_i d j hd
      have hi : i < e.length := (List.getElem?_eq_some_iff.mp hd).1
      obtain ⟨x, t, f1, f2, f3, e1, e2, rfl, e4, put'⟩ := h.1.sl.lens i hi
      rw [hd] at e1
      cases e1
      rw [h.2] at e2
      cases e2
      obtain ⟨u, hu, hr⟩ := e4
      cases hu
      by_cases hj : j = 0
      · subst hj
        have := hr.fp0
        subst this
        exact q v σ H Hs _ ⟨_, [], by simp, h.1, hr, h.1.nd⟩ s
      · have q' : kS K p D H0 Hs0 fp0 (.ret d j) (e.set i none) := by
          have q1 : kS K p D H0 Hs0 fp0 (.ret d j) (if j = 0 then e else e.set i none) := q
          rw [if_neg hj] at q1
          exact q1
        have nd := h.1.nd
        have n1 := List.nodup_append.mp nd
        have n2 := List.nodup_append.mp n1.2.1
        have sl := put' H Hs none (some v) [] (Ex.refl _) (fun a ha => ⟨rfl, (h.1.disj a (by rcases ha with ha | ha <;> simp [ha])).1⟩) rfl
        rw [set_self h.2] at sl
        have ndr : ((f1 ++ ([] ++ f3)) ++ f2).Nodup := by
          refine List.nodup_append.mpr ⟨List.nodup_append.mpr ⟨n1.1, n2.2.1, fun a ha b hb => n1.2.2 a ha b (by simp at hb; simp [hb])⟩, n2.1, fun a ha b hb e => ?_⟩
          simp at ha
          rcases ha with ha | ha
          · exact n1.2.2 a ha b (by simp [hb]) e
          · exact n2.2.2 b hb a ha e.symm
        refine q' v σ H Hs ((f1 ++ ([] ++ f3)) ++ f2) ⟨_, f2, rfl, ⟨h.1.ex, sl, (List.nodup_append.mp ndr).1, h.1.pn⟩, hr, ndr⟩ (s.trans ((Stp.refl _ _ _).weak (fun _ h => h) fun b hb => .inr (by simp at hb ⊢; rcases hb with hb | hb | hb <;> simp [hb])))
    · exact q.elim
theorem rs_ret {x : Expr} {m : M Op} {pos : Pos} (h : RE X p W x m) : RS X p W (.Return (some x) pos) (mRet m) := ⟨PS_imp (ps_ret h.pe) fun σ H D q => by
  obtain ⟨e, Hs, fp, r, q⟩ := q
  exact ⟨e, Hs, fp, r, q.bind.imp (Stp.refl _ _ _) fun o e' k v H' Hs' fp' ro s => gv_ok ro s k⟩⟩
theorem rs_retN {pos : Pos} : RS X p W (.Return none pos) (mPure (.ret .non 0)) := ⟨PS_imp ps_retN fun σ H D q => by
  obtain ⟨e, Hs, fp, r, q⟩ := q
  exact q .non σ H Hs fp ⟨fp, [], by simp, r, ⟨rfl, rfl⟩, r.nd⟩ (Stp.refl _ _ _)⟩
/-! ### targets -/
/-- outside the slots sl nothing was stored -/
def Off (sl : List Nat) (σ σ' : St) : Prop := σ'.length = σ.length ∧ ∀ i, i ∉ sl → σ'[i]? = σ[i]?
theorem Off.refl (sl : List Nat) (σ : St) : Off sl σ σ := ⟨rfl, fun _ _ => rfl⟩
theorem Off.trans {sl sl' : List Nat} {σ σ1 σ2 : St} (a : Off sl σ σ1) (b : Off sl' σ1 σ2) : Off (sl ++ sl') σ σ2 := ⟨b.1.trans a.1, fun i h => (b.2 i fun z => h (List.mem_append_right _ z)).trans (a.2 i fun z => h (List.mem_append_left _ z))⟩
def tG (K : PySem.W.Frag) (p : Pins) (sl : List Nat) (t : D → En → Option En) : TG := fun v σ H Q => ∃ e Hs fp d, Rel K p e σ H Hs fp ∧ Rp K H Hs d 0 v [] ∧ ∃ e', t d e = some e' ∧ ∀ σ' fp', Off sl σ σ' → Rel K p e' σ' H Hs fp' → Stp H Hs fp H Hs fp' → Q σ' H
structure RG (X : Cx) (p : Pins) (x : Expr) (sl : List Nat) (t : D → En → Option En) : Prop where
  pg : PG X x (tG X.K p sl t)
def tGs (K : PySem.W.Frag) (p : Pins) (sl : List Nat) (t : List D → En → Option En) : TGs := fun vs σ H Q => ∃ e Hs fp ds, Rel K p e σ H Hs fp ∧ RpL K H Hs ds 0 vs [] ∧ ∃ e', t ds e = some e' ∧ ∀ σ' fp', Off sl σ σ' → Rel K p e' σ' H Hs fp' → Stp H Hs fp H Hs fp' → Q σ' H
structure RGs (X : Cx) (p : Pins) (x : List Expr) (sl : List Nat) (n : Nat) (t : List D → En → Option En) : Prop where
  pg : PGs X x (tGs X.K p sl t)
  len : ∀ ds e e', t ds e = some e' → ds.length = n
def gN (i : Nat) : D → En → Option En := fun d e => if i < e.length then some (e.set i (some (d, 0))) else none
theorem PG_imp {x : Expr} {t t' : TG} (h : PG X x t) (hi : ∀ v σ H Q, t' v σ H Q → t v σ H Q) : PG X x t' := ⟨fun pins s σ H v u Q I r q => h.run pins s σ H v u Q I r (hi v σ H Q q)⟩
theorem PGs_imp {x : List Expr} {t t' : TGs} (h : PGs X x t) (hi : ∀ v σ H Q, t' v σ H Q → t v σ H Q) : PGs X x t' := ⟨fun pins s σ H v u Q I r q => h.run pins s σ H v u Q I r (hi v σ H Q q)⟩
theorem rg_of {i : Nat} {x : Expr} (h : PG X x (gName i)) (hp : ∀ q ∈ p, q.1 ≠ i) : RG X p x [i] (gN i) := ⟨PG_imp h fun v σ H Q q => by
  obtain ⟨e, Hs, fp, d, r, hd, e', he, q⟩ := q
  unfold gN at he
  split at he
  · rename_i hi
    cases he
    obtain ⟨fp', r', s, _⟩ := stS_ok (W := fun _ _ _ _ => True) (k := fun _ _ => True) hp (show RO X.K p e σ H Hs fp (.val d 0) v from ⟨fp, [], by simp, r, hd, r.nd⟩) (by unfold stS; rw [if_pos hi]; trivial)
    exact q _ fp' ⟨by simp, fun j hj => by rw [List.getElem?_set_ne (by simp at hj; omega)]⟩ r' s
  · cases he⟩
def gsNil : List D → En → Option En := fun ds e => match ds with
  | [] => some e
  | _ => none
def gsCons (t : D → En → Option En) (ts : List D → En → Option En) : List D → En → Option En := fun ds e => match ds with
  | [] => none
  | d :: r => match t d e with
    | none => none
    | some e' => ts r e'
theorem gs_len0 : ∀ ds e e', gsNil ds e = some e' → ds.length = 0 := fun ds e e' h => by
  cases ds with
  | nil => rfl
  | cons _ _ => cases h
theorem gs_len {n : Nat} {t : D → En → Option En} {ts : List D → En → Option En} (h : ∀ ds e e', ts ds e = some e' → ds.length = n) : ∀ ds e e', gsCons t ts ds e = some e' → ds.length = n + 1 := fun ds e e' q => by
  cases ds with
  | nil => cases q
  | cons d ds =>
    unfold gsCons at q
    dsimp only at q
    split at q
    · cases q
    · rw [List.length_cons, h _ _ _ q]
theorem rgs_nil : RGs X p [] [] 0 gsNil := ⟨PGs_imp pgs_nil fun vs σ H Q q => by
  obtain ⟨e, Hs, fp, ds, r, hd, e', he, q⟩ := q
  cases ds with
  | nil => cases he; exact ⟨hd.1, q σ fp (Off.refl _ _) r (Stp.refl _ _ _)⟩
  | cons d ds => exact (nomatch he), gs_len0⟩
theorem rgs_cons {x : Expr} {xs : List Expr} {sl ss : List Nat} {n : Nat} {t : D → En → Option En} {ts : List D → En → Option En} (h : RG X p x sl t) (hr : RGs X p xs ss n ts) (hs : (assignEach (x :: xs) X.env).map (·.2) = assign x X.env :: (assignEach xs X.env).map (·.2) := by rfl) : RGs X p (x :: xs) (sl ++ ss) (n + 1) (gsCons t ts) :=
  ⟨PGs_imp (pgs_cons h.pg hr.pg hs) fun vs σ H Q q => by
    obtain ⟨e, Hs, fp, ds, r, hd, e', he, q⟩ := q
    cases ds with
    | nil => cases he
    | cons d ds =>
      unfold gsCons at he
      dsimp only at he
      split at he
      · cases he
      · rename_i e1 he1
        obtain ⟨v, w, rfl, h1, h2⟩ := hd.uncons
        refine ⟨v, w, rfl, e, Hs, fp, d, r, h1, e1, he1, fun σ' fp' o1 r' s => ?_⟩
        exact ⟨e1, Hs, fp', ds, r', h2, e', he, fun σ'' fp'' o2 r'' s' => q σ'' fp'' (o1.trans o2) r'' (s.trans s')⟩, gs_len hr.len⟩
def gT (t : List D → En → Option En) : D → En → Option En := fun d e => match d with
  | .tup ds => t ds e
  | _ => none
theorem rg_tup {xs : List Expr} {k : Nat} {pos : Pos} {n : Nat} {sl : List Nat} {t : List D → En → Option En} (hc : X.calm = true) (h : RGs X p xs sl n t) (hn : (assignEach xs X.env).length = n := by rfl) (hst : (assignEach xs X.env).findIdx? (·.1) = none := by rfl) : RG X p (.Tuple xs k pos) sl (gT t) :=
  ⟨PG_imp (pg_tup hc h.pg hn hst) fun v σ H Q q => by
    obtain ⟨e, Hs, fp, d, r, hd, e', he, q⟩ := q
    cases d with
    | tup ds =>
      obtain ⟨a, vs, rfl, h1, h2⟩ := hd
      exact ⟨a, vs, rfl, .inl (.inl (r.ex _ _ h2)), by rw [← h1.len]; exact h.len ds e e' he, e, Hs, fp, ds, r, h1, e', he, q⟩
    | _ => cases he⟩
/-! ### assignments -/
def mAsg (i : Nat) (m : M Op) : M Fl := m.bind fun o => (tk o).bind fun x => (stS i x).bind fun _ => mNx
theorem t_asg {K : PySem.W.Frag} {e : En} {σ : St} {H Hs H0 Hs0 : Hp} {fp fp0 : List Addr} {i : Nat} {o : Op} {v : V} {D : Ends} (hp : ∀ q ∈ p, q.1 ≠ i) (ro : RO K p e σ H Hs fp o v) (s : Stp H0 Hs0 fp0 H Hs fp)
    (q : kM K p W H0 Hs0 fp0 (((tk o).bind fun x => (stS i x).bind fun _ => mNx) e) fun f e' => kS K p D H0 Hs0 fp0 f e') : D.nx (σ.set i (some v)) H := by
  have q1 := q.bind
  obtain ⟨d, j, e1, Hs1, fp1, ro1, s1, k1⟩ := tk_ok ro (q1.imp s fun _ _ z => z)
  have k2 := kM.bind k1
  obtain ⟨fp2, r2, s2, k3⟩ := stS_ok hp ro1 (k2.imp (s.trans s1) fun _ _ z => z)
  exact k3 _ H Hs1 fp2 r2 ((s.trans s1).trans s2)
theorem rs_asgOf {i : Nat} {st : Stmt} {te : TE} {m : M Op} (h : PS X st (tAsg (tM X.K p W m) (gName i))) (hp : ∀ q ∈ p, q.1 ≠ i) : RS X p W st (mAsg i m) := ⟨PS_imp h fun σ H D q => by
  obtain ⟨e, Hs, fp, r, q⟩ := q
  exact ⟨e, Hs, fp, r, q.bind.imp (Stp.refl _ _ _) fun o e' k v H' Hs' fp' ro s => t_asg hp ro s k⟩⟩
theorem rs_asg {i : Nat} {x : Str} {y : Expr} {m : M Op} {pos pos' : Pos} (hN : X.N.Nodup) (hi : X.N[i]? = some x) (hx : Loc X.env.scope x) (he : RE X p W y m) (hp : ∀ q ∈ p, q.1 ≠ i) (hs : swapsWith y (some (.Name x pos')) pos.line X.env = pure false := by rfl)
    (hf : X.fn x = true ∨ X.env.scope.names.lookup x = some .local := by first | exact .inl rfl | exact .inr rfl) : RS X p W (.Assign [.Name x pos'] y pos) (mAsg i m) := rs_asgOf (te := tM X.K p W m) (ps_set hN hi hx he.pe hs hf) hp
/-- a, b = e -/
def mAsgT (t : D → En → Option En) (m : M Op) : M Fl := m.bind fun o e => match pk e (frz o) with
  | some (d, k) => if k = 0 then match t d e with
      | some e' => some (.ok .nx e')
      | none => none
    else none
  | none => none
theorem rs_asgT {tg y : Expr} {m : M Op} {sl : List Nat} {t : D → En → Option En} {pos : Pos} (hg : RG X p tg sl t) (he : RE X p W y m) (hs : swapsWithSole [tg] y pos.line X.env = pure false := by rfl) (hw : swappedStores [tg] y X.env = pure none := by rfl) (h1 : (assignEach [tg] X.env).map (·.2) = [assign tg X.env] := by rfl) : RS X p W (.Assign [tg] y pos) (mAsgT t m) :=
  ⟨PS_imp (ps_asg he.pe hg.pg hs hw h1) fun σ H D q => by
    obtain ⟨e, Hs, fp, r, q⟩ := q
    refine tM.then' (Q := fun x H1 => tG X.K p sl t x σ H1 D.nx) r q fun o e' x H' Hs' fp' k r' ro s => ?_
    unfold kM at k
    split at k
    · exact k.elim
    · rename_i f e2 hm
      split at hm
      · rename_i d j hpk
        split at hm
        · rename_i hj
          subst hj
          split at hm
          · rename_i e3 ht
            cases hm
            obtain ⟨f, hr, _⟩ := pk_rp r' ro hpk
            have := hr.fp0
            subst this
            exact ⟨e', Hs', fp', d, r', hr, e2, ht, fun σ' fp'' _ r'' s' => k σ' H' Hs' fp'' r'' (s.trans s')⟩
          · cases hm
        · cases hm
      · cases hm
    · rename_i C y e2 hm
      split at hm
      · split at hm
        · split at hm <;> cases hm
        · cases hm
      · cases hm⟩
/-- x += e -/
def mAug (i : Nat) (f : List D → Option (D × Nat)) (m : M Op) : M Fl := mAsg i (mF true f (mCons (mV i) (mCons m mNil)))
theorem t_v {K : PySem.W.Frag} {i : Nat} {σ : St} {H : Hp} {Q : VK} (h : tM K p W (mV i) σ H Q) : ∃ v, σ[i]? = some (some v) ∧ Q v H := by
  obtain ⟨e, Hs, fp, r, q⟩ := h
  unfold kM mV at q
  split at q
  · exact q.elim
  · rename_i o e' hm
    split at hm
    · rename_i y hy
      cases hm
      have hi : i < e.length := (List.getElem?_eq_some_iff.mp hy).1
      obtain ⟨y', s, f1, f2, f3, e1, e2, e3, e4, _⟩ := r.sl.lens i hi
      rw [hy] at e1
      cases e1
      obtain ⟨u, hu, hr⟩ := e4
      rw [hu] at e2
      exact ⟨u, e2, q u H Hs fp ⟨r, e2⟩ (Stp.refl _ _ _)⟩
    · cases hm
  · rename_i C x e' hm
    split at hm <;> cases hm
theorem rs_aug {i : Nat} {x : Str} {y : Expr} {m : M Op} {op : Operator} {f : List D → Option (D × Nat)} {r : R2} {pos pos' : Pos} (hN : X.N.Nodup) (hi : X.N[i]? = some x) (hx : Loc X.env.scope x) (he : RE X p W y m) (ho : PIp X op r) (hr : Op2S X.K r true f) (hp : ∀ q ∈ p, q.1 ≠ i)
    (hf : X.fn x = true ∨ X.env.scope.names.lookup x = some .local := by first | exact .inl rfl | exact .inr rfl) : RS X p W (.AugAssign (.Name x pos') op y pos) (mAug i f m) := ⟨PS_imp (ps_aug hN hi hx he.pe ho hf) fun σ H D q => by
  obtain ⟨e, Hs, fp, rr, q⟩ := q
  have q1 : tM X.K p W (mF true f (mCons (mV i) (mCons m mNil))) σ H (fun v H' => D.nx (σ.set i (some v)) H') := ⟨e, Hs, fp, rr, (show kM X.K p W H Hs fp ((mF true f (mCons (mV i) (mCons m mNil))).bind _ e) _ from q).bind.imp (Stp.refl _ _ _) fun o e' k v H' Hs' fp' ro s => t_asg hp ro s k⟩
  have q2 := t_op hr q1
  exact t_v q2⟩
/-! ### tests -/
def mT (m : M Op) : M Bool := m.bind fun o => oK (match o with
  | .val (.bl b) _ => some b
  | _ => none)
theorem rp_bl {K : PySem.W.Frag} {H Hs : Hp} {b : Bool} {k : Nat} {v : V} {f : List Addr} (h : Rp K H Hs (.bl b) k v f) : v = .bl b := h.1
theorem t_t {K : PySem.W.Frag} {m : M Op} {σ : St} {H : Hp} {Q : Bool → Hp → Prop} (q : tMT K p W (mT m) σ H Q) : tM K p W m σ H fun x H' => ∃ k, x = .bl k ∧ Q k H' := by
  obtain ⟨e, Hs, fp, r, q⟩ := q
  refine ⟨e, Hs, fp, r, q.bind.imp (Stp.refl _ _ _) fun o e' k v H' Hs' fp' ro s => ?_⟩
  obtain ⟨b, hb, k⟩ := kM_oK k
  split at hb
  · cases hb
    obtain ⟨f, g, rfl, r', h, nd⟩ := ro
    exact ⟨b, h.1, k H' Hs' f r' (s.trans ((Stp.refl _ _ _).weak (fun _ h => h) fun b hb => .inr (List.mem_append_left _ hb)))⟩
  · cases hb
theorem rt_cmp {op : CmpOp} {a b : Expr} {pos : Pos} {r : R2} {lim : Bool} {f : List D → Option (D × Nat)} {ma mb : M Op} (ho : OpR X (compareOp op) r) (hr : Op2S X.K r lim f) (ha : RE X p W a ma) (hb : RE X p W b mb) (hm : behindInMarks op b = false := by first | exact nomark _ | rfl) : RT X p W (.Compare a [op] [b] pos) (mT (mF lim f (mCons ma (mCons mb mNil)))) :=
  ⟨PT_imp (pt_cmpR ho ha.pe hb.pe hm) fun σ H Q q => t_op hr (t_t q)⟩
theorem rt_val {x : Expr} {m : M Op} (h : RE X p W x m) (he : ∀ whole, isTrue x X.env whole = (do let v ← whole; standAt x.pos; holding [v] (truthy v)) := by intro _; rfl) : RT X p W x (mT m) := ⟨PT_imp (pt_val h.pe he) fun σ H Q q => t_t q⟩
def mNot (m : M Bool) : M Bool := m.bind fun b => oK (some (!b))
theorem rt_not {x : Expr} {m : M Bool} {pos : Pos} (h : RT X p W x m) : RT X p W (.UnaryOp .Not x pos) (mNot m) := ⟨PT_imp (pt_not h.pt) fun σ H Q q => by
  obtain ⟨e, Hs, fp, r, q⟩ := q
  exact ⟨e, Hs, fp, r, q.bind.imp (Stp.refl _ _ _) fun b e' k => k⟩⟩
structure RW (X : Cx) (p : Pins) (W : WX) (x : Expr) (m : M Bool) : Prop where
  pw : PW X x (tMT X.K p W m)
def mAnd (a b : M Bool) : M Bool := a.bind fun c => if c = true then b else oK (some false)
def mOr (a b : M Bool) : M Bool := a.bind fun c => if c = true then oK (some true) else b
theorem rw_and1 {a : Expr} {m : M Bool} {pos : Pos} (h : RT X p W a m) : RW X p W (.BoolOp .And [a] pos) m := ⟨pw_and1 h.pt⟩
theorem rw_or1 {a : Expr} {m : M Bool} {pos : Pos} (h : RT X p W a m) : RW X p W (.BoolOp .Or [a] pos) m := ⟨pw_or1 h.pt⟩
theorem rw_and {a b : Expr} {rest : List Expr} {m n : M Bool} {pos : Pos} (h : RT X p W a m) (hr : RW X p W (.BoolOp .And (b :: rest) pos) n) : RW X p W (.BoolOp .And (a :: b :: rest) pos) (mAnd m n) := ⟨PW_imp (pw_and h.pt hr.pw) fun σ H Q q => by
  obtain ⟨e, Hs, fp, r, q⟩ := q
  refine ⟨e, Hs, fp, r, q.bind.imp (Stp.refl _ _ _) fun b e' k H' Hs' fp' r' s => ?_⟩
  cases b with
  | true => exact iteT ⟨e', Hs', fp', r', kM.imp k s fun b e h H'' Hs'' fp'' r'' s' => h H'' Hs'' fp'' r'' (s.trans s')⟩
  | false => exact iteF (k H' Hs' fp' r' s)⟩
theorem rw_or {a b : Expr} {rest : List Expr} {m n : M Bool} {pos : Pos} (h : RT X p W a m) (hr : RW X p W (.BoolOp .Or (b :: rest) pos) n) : RW X p W (.BoolOp .Or (a :: b :: rest) pos) (mOr m n) := ⟨PW_imp (pw_or h.pt hr.pw) fun σ H Q q => by
  obtain ⟨e, Hs, fp, r, q⟩ := q
  refine ⟨e, Hs, fp, r, q.bind.imp (Stp.refl _ _ _) fun b e' k H' Hs' fp' r' s => ?_⟩
  cases b with
  | true => exact iteT (k H' Hs' fp' r' s)
  | false => exact iteF ⟨e', Hs', fp', r', kM.imp k s fun b e h H'' Hs'' fp'' r'' s' => h H'' Hs'' fp'' r'' (s.trans s')⟩⟩
theorem RW.rt {x : Expr} {m : M Bool} (h : RW X p W x m) : RT X p W x m := ⟨h.pw.pt⟩
/-- truth of a thing -/
def tru : D → Option Bool
  | .non => some false
  | .bl b => some b
  | .int i => some (i != 0)
  | .str x => if x.length ≤ sizeLine then some ((x.length : Int) != 0) else none
  | .lst xs => some (!xs.isEmpty)
  | .kls xs => some (!xs.isEmpty)
  | .tup xs => some (!xs.isEmpty)
  | _ => none
def mTru (m : M Op) : M Bool := m.bind fun o e => oK ((pk e (frz o)).bind fun x => tru x.1) e
theorem isEmpty_len {α β : Type} {a : List α} {b : List β} (h : a.length = b.length) : (!a.isEmpty) = !b.isEmpty := by
  cases a <;> cases b <;> simp at h ⊢
theorem sq_of_rp {K : PySem.W.Frag} {H Hs : Hp} {ds : List D} {k : Nat} {v : V} {f : List Addr} (h : Rp K H Hs (.lst ds) k v f) (ex : Ex Hs H) : ∃ a vs g, v = .ref a ∧ H a = some (.lst vs) ∧ RpL K H Hs ds (k - 1) vs g := by
  obtain ⟨a, vs, g, rfl, hl, hc⟩ := h
  rcases hc with ⟨rfl, h1, rfl⟩ | ⟨hk, h1, h2, rfl⟩
  · exact ⟨a, vs, _, rfl, ex _ _ h1, hl⟩
  · exact ⟨a, vs, g, rfl, h1, hl⟩
theorem tru_ok {K : PySem.W.Frag} {H Hs : Hp} {d : D} {k : Nat} {v : V} {f : List Addr} {b : Bool} (ex : Ex Hs H) (h : Rp K H Hs d k v f) (ht : tru d = some b) : TruV K v H b := by
  cases d with
  | non => obtain ⟨rfl, _⟩ := h; cases ht; rfl
  | bl c => obtain ⟨rfl, _⟩ := h; cases ht; rfl
  | int i => obtain ⟨rfl, _⟩ := h; cases ht; rfl
  | str x =>
    obtain ⟨rfl, _⟩ := h
    unfold tru at ht
    dsimp only at ht
    split at ht
    · rename_i hl; cases ht; exact ⟨hl, rfl⟩
    · cases ht
  | lst xs =>
    obtain ⟨a, vs, g, rfl, h1, h2⟩ := sq_of_rp h ex
    cases ht
    exact .inl ⟨vs, .inl (.inl h1), isEmpty_len h2.len⟩
  | kls xs =>
    obtain ⟨a, vs, rfl, h1, h2, _⟩ := h
    cases ht
    exact .inl ⟨vs, Evl.ex_l ex h2, isEmpty_len h1.len⟩
  | tup xs =>
    obtain ⟨a, vs, rfl, h1, h2⟩ := h
    cases ht
    exact .inr (.inl ⟨vs, .inl (.inl (ex _ _ h2)), isEmpty_len h1.len⟩)
  | dct _ _ _ => cases ht
  | obj _ _ _ => cases ht
theorem rt_tru {x : Expr} {m : M Op} (h : RE X p W x m) (he : ∀ whole, isTrue x X.env whole = (do let v ← whole; standAt x.pos; holding [v] (truthy v)) := by intro _; rfl) : RT X p W x (mTru m) := ⟨PT_imp (pt_truth h.pe he) fun σ H Q q => by
  obtain ⟨e, Hs, fp, r, q⟩ := q
  refine tM.then' r q fun o e' x H' Hs' fp' k r' ro s => ?_
  obtain ⟨b, hb, k⟩ := kM_oK k
  obtain ⟨y, hy, hb⟩ := Option.bind_eq_some_iff.mp hb
  obtain ⟨f, hr, _⟩ := pk_rp r' ro hy
  exact ⟨b, tru_ok r'.ex hr hb, k H' Hs' fp' r' s⟩⟩
def mIf (c : M Bool) (a b : M Fl) : M Fl := c.bind fun t => if t = true then a else b
theorem rs_if {c : Expr} {a b : List Stmt} {mc : M Bool} {ma mb : M Fl} {pos : Pos} (hc : RT X p W c mc) (ha : RSs X p W a ma) (hb : RSs X p W b mb) : RS X p W (.If c a b pos) (mIf mc ma mb) := ⟨PS_imp (ps_if hc.pt ha.ps hb.ps) fun σ H D q => by
  obtain ⟨e, Hs, fp, r, q⟩ := q
  refine ⟨e, Hs, fp, r, q.bind.imp (Stp.refl _ _ _) fun b e' k H' Hs' fp' r' s => ?_⟩
  cases b with
  | true => exact iteT ⟨e', Hs', fp', r', kM.imp k s fun f e h => h.after s⟩
  | false => exact iteF ⟨e', Hs', fp', r', kM.imp k s fun f e h => h.after s⟩⟩
def mIfE (c : M Bool) (a b : M Op) : M Op := c.bind fun t => if t = true then a else b
theorem re_if {c a b : Expr} {mc : M Bool} {ma mb : M Op} {pos : Pos} (hc : RT X p W c mc) (ha : RE X p W a ma) (hb : RE X p W b mb) : RE X p W (.IfExp c a b pos) (mIfE mc ma mb) := ⟨PE_imp (pe_ifExp hc.pt ha.pe hb.pe) fun σ H Q q => by
  obtain ⟨e, Hs, fp, r, q⟩ := q
  refine ⟨e, Hs, fp, r, q.bind.imp (Stp.refl _ _ _) fun b e' k H' Hs' fp' r' s => ?_⟩
  cases b with
  | true => exact iteT ⟨e', Hs', fp', r', kM.imp k s fun f e h v H'' Hs'' fp'' ro s' => h v H'' Hs'' fp'' ro (s.trans s')⟩
  | false => exact iteF ⟨e', Hs', fp', r', kM.imp k s fun f e h v H'' Hs'' fp'' ro s' => h v H'' Hs'' fp'' ro (s.trans s')⟩⟩
/-- and, or, not as values (of truth values) -/
def mBl (m : M Op) (f : Bool → M Op) : M Op := m.bind fun o => match o with
  | .val (.bl b) _ => f b
  | _ => fun _ => none
theorem kM_none {α : Type} {K : PySem.W.Frag} {e : En} {H Hs : Hp} {fp : List Addr} {k : α → En → Prop} (h : kM K p W H Hs fp ((fun _ => none : M α) e) k) : False := h
theorem t_bl {K : PySem.W.Frag} {m : M Op} {f : Bool → M Op} {σ : St} {H : Hp} {Q : VK} (q : tM K p W (mBl m f) σ H Q) : tM K p W m σ H fun x H' => ∃ c, x = .bl c ∧ tM K p W (f c) σ H' Q := by
  obtain ⟨e, Hs, fp, r, q⟩ := q
  refine ⟨e, Hs, fp, r, q.bind.imp (Stp.refl _ _ _) fun o e' k v H' Hs' fp' ro s => ?_⟩
  cases o with
  | sl i => exact (kM_none (e := e') k).elim
  | val d j =>
    cases d with
    | bl b =>
      obtain ⟨f', g, rfl, r', h, nd⟩ := ro
      have s1 : Stp H' Hs' (f' ++ g) H' Hs' f' := (Stp.refl H' Hs' (f' ++ g)).weak (fun _ h => h) fun b hb => .inr (List.mem_append_left _ hb)
      have s2 := s.trans s1
      exact ⟨b, h.1, e', Hs', f', r', kM.imp k s2 fun f e h v H'' Hs'' fp'' ro s' => h v H'' Hs'' fp'' ro (s2.trans s')⟩
    | _ => exact (kM_none (e := e') k).elim
def mAndV (a b : M Op) : M Op := mBl a fun c => if c = true then b else mC (.bl false)
def mOrV (a b : M Op) : M Op := mBl a fun c => if c = true then mC (.bl true) else b
theorem t_c {K : PySem.W.Frag} {d : D} {v : V} {σ : St} {H : Hp} {Q : VK} (hd : ∀ H Hs, Rp K H Hs d 0 v []) (q : tM K p W (mC d) σ H Q) : Q v H := by
  obtain ⟨e, Hs, fp, r, q⟩ := q
  exact q v H Hs fp ⟨fp, [], by simp, r, hd _ _, r.nd⟩ (Stp.refl _ _ _)
theorem re_one {op : BoolOp} {a : Expr} {pos : Pos} {m : M Op} (h : PE X (.BoolOp op [a] pos) (tM X.K p W m)) : RE X p W (.BoolOp op [a] pos) m := ⟨h⟩
theorem re_andV {a b : Expr} {rest : List Expr} {ma mb : M Op} {pos : Pos} (ha : RE X p W a ma) (hb : RE X p W (.BoolOp .And (b :: rest) pos) mb) : RE X p W (.BoolOp .And (a :: b :: rest) pos) (mAndV ma mb) := ⟨PE_imp (pe_and ha.pe hb.pe) fun σ H Q q => (t_bl q).mono fun x H' ⟨c, hx, q⟩ => ⟨c, hx, by
  cases c with
  | true => exact iteT q
  | false => exact iteF (t_c (d := .bl false) (fun _ _ => ⟨rfl, rfl⟩) q)⟩⟩
theorem re_orV {a b : Expr} {rest : List Expr} {ma mb : M Op} {pos : Pos} (ha : RE X p W a ma) (hb : RE X p W (.BoolOp .Or (b :: rest) pos) mb) : RE X p W (.BoolOp .Or (a :: b :: rest) pos) (mOrV ma mb) := ⟨PE_imp (pe_or ha.pe hb.pe) fun σ H Q q => (t_bl q).mono fun x H' ⟨c, hx, q⟩ => ⟨c, hx, by
  cases c with
  | true => exact iteT (t_c (d := .bl true) (fun _ _ => ⟨rfl, rfl⟩) q)
  | false => exact iteF q⟩⟩
theorem re_notV {a : Expr} {ma : M Op} {pos : Pos} (ha : RE X p W a ma) : RE X p W (.UnaryOp .Not a pos) (mBl ma fun c => mC (.bl (!c))) := ⟨PE_imp (pe_not ha.pe) fun σ H Q q => (t_bl q).mono fun x H' ⟨c, hx, q⟩ => ⟨c, hx, t_c (d := .bl (!c)) (fun _ _ => ⟨rfl, rfl⟩) q⟩⟩
end
end Rf
/-! Rf, part D: loops and comprehensions. -/
namespace Rf
open PySem L2
open Evl (Ex)
/-- J walks the items ds while Hs stands -/
structure Wk (K : PySem.W.Frag) (J : It) (ds : List D) (Hs : Hp) : Prop where
  go : ∀ i d H2 Hs2, ds[i]? = some d → Ex Hs Hs2 → Ex Hs2 H2 → J.go i H2
  yld : ∀ i d H2 Hs2 x H3, ds[i]? = some d → Ex Hs Hs2 → Ex Hs2 H2 → J.yld i H2 x H3 → ∃ Hs3, Ex Hs3 H3 ∧ Rp K H3 Hs3 d 0 x [] ∧ Stp H2 Hs2 [] H3 Hs3 []
  stop : ∀ H2 Hs2, Ex Hs Hs2 → Ex Hs2 H2 → J.stop ds.length H2
def tI (K : PySem.W.Frag) (p : Pins) (W : WX) (m : M (List D)) : TI := fun σ H R => ∃ e Hs fp, Rel K p e σ H Hs fp ∧ kM K p W H Hs fp (m e) fun ds e' => ∀ J H' Hs' fp', Rel K p e' σ H' Hs' fp' → Stp H Hs fp H' Hs' fp' → Wk K J ds Hs' → R J H'
structure RI (X : Cx) (p : Pins) (W : WX) (tg it : Expr) (m : M (List D)) : Prop where
  pi : PI X tg it (tI X.K p W m)
section
variable {K : PySem.W.Frag} {p : Pins} {W : WX} {e e' : En} {σ σ' : St} {H H1 H' Hs Hs1 Hs' : Hp} {fp fp1 fp' : List Addr} {Dn : Ends}
theorem Sl.reslot : ∀ {e : En} {σ σ' : St} {fp : List Addr}, Sl K H Hs e σ fp → σ'.length = σ.length → (∀ (i : Nat) (x : D × Nat), e[i]? = some (some x) → σ'[i]? = σ[i]?) → Sl K H Hs e σ' fp
  | [], σ, σ', fp, h, hl, _ => by
    obtain ⟨rfl, rfl⟩ := h
    exact ⟨List.eq_nil_of_length_eq_zero hl, rfl⟩
  | x :: e, σ, σ', fp, h, hl, q => by
    obtain ⟨s, r, f, g, rfl, rfl, h1, h2⟩ := h
    match σ', hl, q with
    | s' :: r', hl, q =>
      refine ⟨s', r', f, g, rfl, rfl, ?_, Sl.reslot h2 (by simpa using hl) fun i y hy => by simpa using q (i + 1) y (by simpa using hy)⟩
      match x, h1 with
      | none, h1 => exact h1
      | some (d, k), ⟨v, hv, hr⟩ =>
        have := q 0 (d, k) rfl
        simp at this
        exact ⟨v, this.trans hv, hr⟩
/-- through an item's making: what is owned stays -/
theorem Rel.still (r : Rel K p e σ H Hs fp) (ex : Ex Hs' H') (s : Stp H Hs [] H' Hs' []) : Rel K p e σ H' Hs' fp ∧ Stp H Hs fp H' Hs' fp := by
  refine ⟨r.frame s.ex ex fun a ha => ?_, s.weak (fun _ z => nomatch z) fun b hb => .inr hb⟩
  obtain ⟨h1, o, h2⟩ := r.disj a ha
  refine ⟨(s.kp a o h2 (by simp)).trans h2.symm, ?_⟩
  cases z : Hs' a with
  | none => rfl
  | some u =>
    rcases s.nw a (by rw [z]; simp) with n | n | n
    · exact absurd h1 n
    · cases n
    · rw [h2] at n; cases n
/-! ### for -/
def endF (m : M Fl) : Fl → M Fl
  | .nx => m
  | .ct => m
  | .brk => mNx
  | .ret d k => fun e => some (.ok (.ret d k) e)
def mLoop (t : D → En → Option En) (mb : M Fl) : List D → M Fl
  | [] => mNx
  | d :: r => fun e => match t d e with
    | none => none
    | some e1 => (mb.bind (endF (mLoop t mb r))) e1
def mFor (mi : M (List D)) (t : D → En → Option En) (mb : M Fl) : M Fl := mi.bind (mLoop t mb)
theorem t_for {sl : List Nat} {mi : M (List D)} {t : D → En → Option En} {mb : M Fl} {σ : St} {H : Hp} (q : tMS K p W (mFor mi t mb) Dn σ H) : tFor (tI K p W mi) (tG K p sl t) (tMS K p W mb) Dn σ H := by
  obtain ⟨e, Hs, fp, r, q⟩ := q
  refine ⟨e, Hs, fp, r, q.bind.imp (Stp.refl _ _ _) fun ds e1 k1 J H1 Hs1 fp1 r1 s1 wk => ?_⟩
  refine ⟨fun i m σ' H' => ∃ e' Hs' fp', Rel K p e' σ' H' Hs' fp' ∧ i + m = ds.length ∧ Ex Hs1 Hs' ∧ kM K p W H' Hs' fp' (mLoop t mb (ds.drop i) e') fun f e => kS K p Dn H' Hs' fp' f e, ⟨ds.length, e1, Hs1, fp1, r1, by omega, Ex.refl _, by
    rw [List.drop_zero]
    exact kM.imp k1 s1 fun f e h => h.after s1⟩, fun i m σ' H' hW => ?_⟩
  obtain ⟨e', Hs', fp', r', him, ex', k'⟩ := hW
  by_cases hi : i < ds.length
  · have hd : ds[i]? = some ds[i] := List.getElem?_eq_getElem hi
    refine .inr ⟨wk.go i _ H' Hs' hd ex' r'.ex, fun σ' H' => ∃ e' Hs' fp', Rel K p e' σ' H' Hs' fp' ∧ Ex Hs1 Hs' ∧ kM K p W H' Hs' fp' (mLoop t mb (ds.drop (i + 1)) e') fun f e => kS K p Dn H' Hs' fp' f e, fun σ'' H'' hN => ?_, fun x H3 hy => ?_⟩
    · obtain ⟨e2, Hs2, fp2, a, b, c⟩ := hN
      exact ⟨m - 1, by omega, e2, Hs2, fp2, a, by omega, b, c⟩
    · obtain ⟨Hs3, ex3, hr, s3⟩ := wk.yld i _ H' Hs' x H3 hd ex' r'.ex hy
      obtain ⟨r3, s4⟩ := r'.still ex3 s3
      rw [List.drop_eq_getElem_cons hi] at k'
      unfold mLoop at k'
      split at k'
      · exact k'.elim
      · rename_i e2 he2
        refine ⟨e', Hs3, fp', ds[i], r3, hr, e2, he2, fun σ2 fp2 _ r2 s5 => ?_⟩
        have s6 := s4.trans s5
        refine ⟨e2, Hs3, fp2, r2, (kM.bind k').imp s6 fun f e3 k3 => ?_⟩
        have fin : ∀ σ'' H'' Hs'' fp'', Rel K p e3 σ'' H'' Hs'' fp'' → Stp H3 Hs3 fp2 H'' Hs'' fp'' → kM K p W H' Hs' fp' (mLoop t mb (ds.drop (i + 1)) e3) (fun f e => kS K p Dn H' Hs' fp' f e) → ∃ e' Hs' fp', Rel K p e' σ'' H'' Hs' fp' ∧ Ex Hs1 Hs' ∧ kM K p W H'' Hs' fp' (mLoop t mb (ds.drop (i + 1)) e') fun f e => kS K p Dn H'' Hs' fp' f e :=
          fun σ'' H'' Hs'' fp'' r'' s'' k => ⟨e3, Hs'', fp'', r'', ex'.trans ((s6.trans s'').ex), k.imp (s6.trans s'') fun f e h => h.after (s6.trans s'')⟩
        cases f with
        | nx => exact fun σ'' H'' Hs'' fp'' r'' s'' => fin σ'' H'' Hs'' fp'' r'' s'' k3
        | ct => exact fun σ'' H'' Hs'' fp'' r'' s'' => fin σ'' H'' Hs'' fp'' r'' s'' k3
        | brk => exact fun σ'' H'' Hs'' fp'' r'' s'' => k3 σ'' H'' Hs'' fp'' r'' (s6.trans s'')
        | ret d k => exact fun v σ'' H'' Hs'' fp'' r'' s'' => k3 v σ'' H'' Hs'' fp'' r'' (s6.trans s'')
  · have e0 : i = ds.length := by omega
    subst e0
    rw [List.drop_length] at k'
    exact .inl ⟨wk.stop H' Hs' ex' r'.ex, k' σ' H' Hs' fp' r' (Stp.refl _ _ _)⟩
/-! ### while -/
def mWhile (c : M Bool) (b : M Fl) : Nat → M Fl
  | 0 => fun _ => none
  | n + 1 => c.bind fun t => if t = true then b.bind (endF (mWhile c b n)) else mNx
theorem t_while {c : M Bool} {b : M Fl} {n : Nat} {σ : St} {H : Hp} (q : tMS K p W (mWhile c b n) Dn σ H) : tWhile (tMT K p W c) (tMS K p W b) Dn σ H := by
  refine ⟨fun m σ' H' => tMS K p W (mWhile c b m) Dn σ' H', ⟨n, q⟩, fun m σ' H' hW => ?_⟩
  obtain ⟨e, Hs, fp, r, q⟩ := hW
  cases m with
  | zero => exact q.elim
  | succ m =>
    unfold mWhile at q
    refine ⟨e, Hs, fp, r, q.bind.imp (Stp.refl _ _ _) fun t e1 k1 H1 Hs1 fp1 r1 s1 => ?_⟩
    cases t with
    | false => exact iteF (k1 σ' H1 Hs1 fp1 r1 s1)
    | true =>
      refine iteT ⟨fun σ'' H'' => tMS K p W (mWhile c b m) Dn σ'' H'', fun σ'' H'' h => ⟨m, Nat.lt_succ_self _, h⟩, e1, Hs1, fp1, r1, (kM.bind (show kM K p W H' Hs fp (b.bind (endF (mWhile c b m)) e1) _ from k1)).imp s1 fun f e3 k3 => ?_⟩
      cases f with
      | nx => exact fun σ'' H'' Hs'' fp'' r'' s'' => ⟨e3, Hs'', fp'', r'', kM.imp k3 (s1.trans s'') fun f e h => h.after (s1.trans s'')⟩
      | ct => exact fun σ'' H'' Hs'' fp'' r'' s'' => ⟨e3, Hs'', fp'', r'', kM.imp k3 (s1.trans s'') fun f e h => h.after (s1.trans s'')⟩
      | brk => exact fun σ'' H'' Hs'' fp'' r'' s'' => k3 σ'' H'' Hs'' fp'' r'' (s1.trans s'')
      | ret d k => exact fun v σ'' H'' Hs'' fp'' r'' s'' => k3 v σ'' H'' Hs'' fp'' r'' (s1.trans s'')
/-! ### comprehensions -/
def W0 : WX := fun _ _ _ _ => False
def noX {α : Type} (m : M α) : M α := fun e => match m e with
  | some (.ok a e') => some (.ok a e')
  | _ => none
theorem kM.noX {α : Type} {m : M α} {k : α → En → Prop} (h : kM K p W H Hs fp (noX m e) k) : kM K p W0 H Hs fp (m e) k := by
  unfold Rf.noX at h
  split at h
  · rename_i a e' hm
    rw [hm]
    exact h
  · exact h.elim
def wipeE (e : En) : List Nat → En
  | [] => e
  | v :: vs => (wipeE e vs).set v none
theorem wipeE_none {e : En} {i : Nat} {x : D × Nat} : ∀ {vs : List Nat}, (wipeE e vs)[i]? = some (some x) → e[i]? = some (some x) ∧ i ∉ vs
  | [], h => ⟨h, by simp⟩
  | v :: vs, h => by
    unfold wipeE at h
    by_cases hi : v = i
    · subst hi
      by_cases hv : v < (wipeE e vs).length
      · rw [List.getElem?_set_self hv] at h; cases h
      · rw [List.getElem?_eq_none (by simpa using hv)] at h; cases h
    · rw [List.getElem?_set_ne hi] at h
      obtain ⟨h1, h2⟩ := wipeE_none h
      exact ⟨h1, by simp only [List.mem_cons, not_or]; exact ⟨fun e => hi e.symm, h2⟩⟩
theorem wipe_off {σ : St} {i : Nat} : ∀ {vs : List Nat}, i ∉ vs → (wipe σ vs)[i]? = σ[i]?
  | [], _ => rfl
  | v :: vs, h => by
    unfold wipe
    rw [List.getElem?_set_ne (by simp at h; omega)]
    exact wipe_off (by simp at h; exact h.2)
theorem wipe_in {σ : St} {i : Nat} : ∀ {vs : List Nat}, i ∈ vs → i < σ.length → (wipe σ vs)[i]? = some none
  | [], h, _ => by cases h
  | v :: vs, h, hl => by
    unfold wipe
    by_cases hi : v = i
    · subst hi
      rw [List.getElem?_set_self (by rw [wipe_length]; exact hl)]
    · rw [List.getElem?_set_ne hi]
      exact wipe_in (by simp at h; rcases h with h | h; exact absurd h.symm hi; exact h) hl
theorem wipe_eq {σ σ' : St} {vs sl : List Nat} (h : Off sl σ σ') (hs : ∀ i ∈ sl, i ∈ vs) : wipe σ' vs = wipe σ vs := by
  apply List.ext_getElem?
  intro i
  by_cases hi : i ∈ vs
  · by_cases hl : i < σ.length
    · rw [wipe_in hi hl, wipe_in hi (by rw [h.1]; exact hl)]
    · rw [List.getElem?_eq_none (by rw [wipe_length, h.1]; omega), List.getElem?_eq_none (by rw [wipe_length]; omega)]
  · rw [wipe_off hi, wipe_off hi]
    exact h.2 i fun z => hi (hs i z)
theorem wipe_wipe {σ : St} {vs : List Nat} : wipe (wipe σ vs) vs = wipe σ vs := by
  apply List.ext_getElem?
  intro i
  by_cases hi : i ∈ vs
  · by_cases hl : i < σ.length
    · rw [wipe_in hi hl, wipe_in hi (by rw [wipe_length]; exact hl)]
    · rw [List.getElem?_eq_none (by rw [wipe_length, wipe_length]; omega), List.getElem?_eq_none (by rw [wipe_length]; omega)]
  · rw [wipe_off hi]
theorem Sl.wipe : ∀ {vs : List Nat} {fp : List Addr}, Sl K H Hs e σ fp → ∃ fp', Sl K H Hs (wipeE e vs) (L2.wipe σ vs) fp' ∧ (∀ a ∈ fp', a ∈ fp) ∧ (fp.Nodup → fp'.Nodup)
  | [], fp, h => ⟨fp, h, fun _ z => z, fun z => z⟩
  | v :: vs, fp, h => by
    obtain ⟨fp1, h1, h2, h3⟩ := Sl.wipe (vs := vs) h
    by_cases hv : v < (wipeE e vs).length
    · obtain ⟨x, s, f1, f2, f3, e1, e2, rfl, e4, put'⟩ := h1.lens v hv
      have own := h1.own
      refine ⟨f1 ++ ([] ++ f3), put' H Hs none none [] (Ex.refl _) (fun a ha => ⟨rfl, (own a (by rcases ha with ha | ha <;> simp [ha])).1⟩) rfl, fun a ha => h2 a (by simp at ha ⊢; rcases ha with ha | ha <;> simp [ha]), fun nd => ?_⟩
      have n1 := List.nodup_append.mp (h3 nd)
      exact List.nodup_append.mpr ⟨n1.1, (List.nodup_append.mp n1.2.1).2.1, fun a ha b hb => n1.2.2 a ha b (List.mem_append_right _ hb)⟩
    · refine ⟨fp1, ?_, h2, h3⟩
      unfold wipeE L2.wipe
      have hl := h1.len
      rw [List.set_eq_of_length_le (by omega), List.set_eq_of_length_le (by omega)]
      exact h1
theorem Rel.wipe {vs : List Nat} (r : Rel K p e σ H Hs fp) (hp : ∀ q ∈ p, q.1 ∉ vs) : ∃ fp', Rel K p (wipeE e vs) (L2.wipe σ vs) H Hs fp' ∧ (∀ a ∈ fp', a ∈ fp) := by
  obtain ⟨fp', h1, h2, h3⟩ := r.sl.wipe (vs := vs)
  exact ⟨fp', ⟨r.ex, h1, h3 r.nd, fun q hq => by rw [wipe_off (hp q hq)]; exact r.pn q hq⟩, h2⟩
theorem Stp.less {fp2 : List Addr} (s : Stp H Hs fp H' Hs' fp') (h : ∀ a ∈ fp2, a ∈ fp') : Stp H Hs fp H' Hs' fp2 := s.weak (fun _ z => z) fun b hb => .inl (h b hb)
/-- behind the block: the names as they were ahead, where these stood still -/
def restE (e0 : En) : List Nat → En → En
  | [], e => e
  | i :: r, e => restE e0 r (match e0[i]? with
    | some (some (d, 0)) => e.set i (some (d, 0))
    | _ => e)
theorem Rel.rest {e0 : En} (h0 : ∀ (i : Nat) (d : D), e0[i]? = some (some (d, 0)) → ∃ v, σ[i]? = some (some v) ∧ Rp K H Hs d 0 v []) : ∀ {vs : List Nat} {e : En} {fp : List Addr}, Rel K p e σ H Hs fp → ∃ fp', Rel K p (restE e0 vs e) σ H Hs fp' ∧ (∀ a ∈ fp', a ∈ fp)
  | [], e, fp, r => ⟨fp, r, fun _ z => z⟩
  | i :: vs, e, fp, r => by
    unfold restE
    split
    · rename_i d hd
      obtain ⟨v, hv, hr⟩ := h0 i d hd
      by_cases hi : i < e.length
      · obtain ⟨x, s, f1, f2, f3, e1, e2, rfl, e4, put'⟩ := r.sl.lens i hi
        have sl := put' H Hs (some (d, 0)) (some v) [] (Ex.refl _) (fun a ha => ⟨rfl, (r.disj a (by rcases ha with ha | ha <;> simp [ha])).1⟩) ⟨v, rfl, hr⟩
        rw [set_self hv] at sl
        have n1 := List.nodup_append.mp r.nd
        have r2 : Rel K p (e.set i (some (d, 0))) σ H Hs (f1 ++ ([] ++ f3)) := ⟨r.ex, sl, List.nodup_append.mpr ⟨n1.1, (List.nodup_append.mp n1.2.1).2.1, fun a ha b hb => n1.2.2 a ha b (List.mem_append_right _ hb)⟩, r.pn⟩
        obtain ⟨fp', r3, h3⟩ := Rel.rest h0 (vs := vs) r2
        exact ⟨fp', r3, fun a ha => by have := h3 a ha; simp at this ⊢; rcases this with z | z <;> simp [z]⟩
      · rw [List.set_eq_of_length_le (by omega)]
        exact Rel.rest h0 r
    · exact Rel.rest h0 r
def lcLoop (own : List Nat) (ck : Nat) (t : D → En → Option En) (tt : M Bool) (te : M Op) : List D → List D → M (List D)
  | [], acc => fun e => some (.ok acc e)
  | d :: r, acc => fun e => match t d e with
    | none => none
    | some e1 => ((noX tt).bind fun b => if b = true then (noX te).bind fun o => (tk o).bind fun x => fun e => if acc.length < sizeLine ∧ (ck = 0 ∨ x.2 = ck) then lcLoop own ck t tt te r (acc ++ [x.1]) (wipeE e own) else none
        else fun e => lcLoop own ck t tt te r acc (wipeE e own)) e1
def mLc (own : List Nat) (ck : En → Nat) (mi : M (List D)) (t : D → En → Option En) (tt : M Bool) (te : M Op) : M Op := mi.bind fun ds e0 => match lcLoop own (ck e0) t tt te ds [] (wipeE e0 own) with
  | some (.ok acc e') => some (.ok (.val (.lst acc) (ck e0 + 1)) (restE e0 own e'))
  | _ => none
/-- the list that is being made, at D -/
structure Acc (K : PySem.W.Frag) (ck : Nat) (p : Pins) (e : En) (σ : St) (H Hs : Hp) (fp : List Addr) (L : Addr) (acc : List D) (g : List Addr) : Prop where
  rel : Rel K p e σ H Hs fp
  at_ : ∃ av, H L = some (.lst av) ∧ RpL K H Hs acc ck av g
  no : Hs L = none
  nd : (fp ++ (L :: g)).Nodup
theorem Acc.keep {ck : Nat} {L : Addr} {acc : List D} {g : List Addr} {e2 : En} {σ2 : St} {fp2 : List Addr} (a : Acc K ck p e σ H Hs fp L acc g) (r2 : Rel K p e2 σ2 H' Hs' fp2) (s : Stp H Hs fp H' Hs' fp2) : Acc K ck p e2 σ2 H' Hs' fp2 L acc g := by
  obtain ⟨av, h1, h2⟩ := a.at_
  have nd := List.nodup_append.mp a.nd
  have lg : ∀ b, b ∈ L :: g → b ∉ fp := fun b hb hf => nd.2.2 b hf b hb rfl
  have inH : ∀ b ∈ L :: g, ∃ o, H b = some o := fun b hb => by
    rcases List.mem_cons.mp hb with rfl | hb
    · exact ⟨_, h1⟩
    · obtain ⟨o, ho, _⟩ := (h2.own b hb).2.1; exact ⟨o, ho⟩
  have noS : ∀ b ∈ L :: g, Hs b = none := fun b hb => by
    rcases List.mem_cons.mp hb with rfl | hb
    · exact a.no
    · exact (h2.own b hb).1
  have kp : ∀ b ∈ L :: g, H' b = H b ∧ Hs' b = none := fun b hb => by
    obtain ⟨o, ho⟩ := inH b hb
    refine ⟨(s.kp b o ho (lg b hb)).trans ho.symm, ?_⟩
    cases z : Hs' b with
    | none => rfl
    | some u =>
      rcases s.nw b (by rw [z]; simp) with n | n | n
      · exact absurd (noS b hb) n
      · exact absurd n (lg b hb)
      · rw [ho] at n; cases n
  refine ⟨r2, ⟨av, (kp L List.mem_cons_self).1.trans h1, h2.frame s.ex fun b hb => kp b (List.mem_cons_of_mem _ hb)⟩, (kp L List.mem_cons_self).2, List.nodup_append.mpr ⟨r2.nd, nd.2.1, fun b hb c hc e => ?_⟩⟩
  subst e
  rcases s.fr b hb with z | z
  · exact lg b hc z
  · obtain ⟨o, ho⟩ := inH b hc
    rw [ho] at z; cases z
theorem mem_ne {a L : Addr} {g : List Addr} (ha : a ∈ g) (hn : L ∉ g) : a ≠ L := fun e => hn (e ▸ ha)
theorem stp_fresh {q : List Addr} (s : Stp H Hs fp H' Hs' fp') (h : ∀ b ∈ q, b ∈ fp' ∨ H' b = none) : ∀ b ∈ q, b ∈ fp ∨ H b = none := fun b hb => by
  rcases h b hb with z | z
  · exact s.fr b z
  · exact .inr (s.tr b z)
theorem upd_keep {o : HO} {L : Addr} {b : Addr} {u : HO} (h : H b = some u) (hL : H L = none) : upd H L o b = some u := by rw [upd_ne (ne_of_none h hL)]; exact h
theorem t_lc {own : List Nat} {ckf : En → Nat} {mi : M (List D)} {sl : List Nat} {t : D → En → Option En} {tt : M Bool} {te : M Op} {Q : VK} (hsl : ∀ i ∈ sl, i ∈ own) (hp : ∀ q ∈ p, q.1 ∉ own) (q : tM K p W (mLc own ckf mi t tt te) σ H Q) :
    tLc (tI K p W mi) (tG K p sl t) (tMT K p W0 tt) (tM K p W0 te) own σ H Q := by
  obtain ⟨e, Hs, fp, r, q⟩ := q
  refine ⟨e, Hs, fp, r, q.bind.imp (Stp.refl _ _ _) fun ds e1 k1 J H1 Hs1 fp1 r1 s1 wk => ?_⟩
  intro L hL
  -- what the whole loop gives
  generalize ckf e1 = ck at k1
  unfold kM at k1
  split at k1
  · exact k1.elim
  rotate_left
  · rename_i C x e' hm
    split at hm <;> cases hm
  rename_i o e' hm
  split at hm
  rotate_left
  · cases hm
  rename_i accF eF hrun
  cases hm
  have hLs : Hs1 L = none := Evl.fresh_back r1.ex hL
  have hLf : L ∉ fp1 := fun z => by obtain ⟨_, o, ho⟩ := r1.disj L z; rw [hL] at ho; cases ho
  obtain ⟨fpw, rw1, hw1⟩ := r1.wipe (vs := own) hp
  have rw2 : Rel K p (wipeE e1 own) (L2.wipe σ own) (upd H1 L (.lst [])) Hs1 fpw := rw1.frame (Ex.refl _) (ex_updO r1.ex hLs) fun a ha => ⟨by rw [upd_ne (mem_ne (hw1 a ha) hLf)], (rw1.disj a ha).1⟩
  refine ⟨fun i m H' => ∃ e' Hs' fp' acc g, Acc K ck p e' (L2.wipe σ own) H' Hs' fp' L acc g ∧ i + m = ds.length ∧ Stp H1 Hs1 fp1 H' Hs' (fp' ++ L :: g) ∧ lcLoop own ck t tt te (ds.drop i) acc e' = some (.ok accF eF), ⟨ds.length, wipeE e1 own, Hs1, fpw, [], [], ⟨rw2, ⟨[], upd_same, RpL.nil'⟩, hLs, ?_⟩, by omega, ?_, by rw [List.drop_zero]; exact hrun⟩, fun i m H' hW => ?_⟩
  · exact List.nodup_append.mpr ⟨rw1.nd, by simp, fun a ha b hb e => by simp at hb; subst hb; subst e; exact hLf (hw1 a ha)⟩
  · exact (Stp.newO (o := .lst []) (fp := fp1) hL r1.ex).less fun a ha => by
      rcases List.mem_append.mp ha with ha | ha
      · exact List.mem_append_left _ (hw1 a ha)
      · simp at ha; subst ha; simp
  obtain ⟨e2, Hs2, fp2, acc, g, ac, him, s2, k2⟩ := hW
  by_cases hi : i < ds.length
  · have hd : ds[i]? = some ds[i] := List.getElem?_eq_getElem hi
    refine .inr ⟨wk.go i _ H' Hs2 hd s2.ex ac.rel.ex, fun H' => ∃ e' Hs' fp' acc g, Acc K ck p e' (L2.wipe σ own) H' Hs' fp' L acc g ∧ Stp H1 Hs1 fp1 H' Hs' (fp' ++ L :: g) ∧ lcLoop own ck t tt te (ds.drop (i + 1)) acc e' = some (.ok accF eF), fun H'' hN => ?_, fun x H3 hy => ?_⟩
    · obtain ⟨e3, Hs3, fp3, acc3, g3, a3, s3, k3⟩ := hN
      exact ⟨m - 1, by omega, e3, Hs3, fp3, acc3, g3, a3, by omega, s3, k3⟩
    · obtain ⟨Hs3, ex3, hr, s3⟩ := wk.yld i _ H' Hs2 x H3 hd s2.ex ac.rel.ex hy
      obtain ⟨r3, s4⟩ := ac.rel.still ex3 s3
      have ac3 := ac.keep r3 s4
      have s5 : Stp H1 Hs1 fp1 H3 Hs3 (fp2 ++ L :: g) := s2.trans (s4.weak (fun b hb => List.mem_append_left _ hb) fun b hb => by
        rcases List.mem_append.mp hb with z | z
        · exact .inl z
        · exact .inr (List.mem_append_right _ z))
      rw [List.drop_eq_getElem_cons hi] at k2
      unfold lcLoop at k2
      split at k2
      · cases k2
      rename_i e3 he3
      refine ⟨e2, Hs3, fp2, ds[i], r3, hr, e3, he3, fun σ4 fp4 off4 r4 s6 => ⟨by rw [wipe_eq off4 hsl, wipe_wipe], ?_⟩⟩
      have ac4 := ac3.keep r4 s6
      -- what a turn hands on
      have next : ∀ {H5 Hs5 : Hp} {fp5 : List Addr} {e5 : En} {acc5 : List D} {g5 : List Addr}, Acc K ck p e5 σ4 H5 Hs5 fp5 L acc5 g5 → Stp H1 Hs1 fp1 H5 Hs5 (fp5 ++ L :: g5) → lcLoop own ck t tt te (ds.drop (i + 1)) acc5 (wipeE e5 own) = some (.ok accF eF) →
          ∃ e' Hs' fp' acc g, Acc K ck p e' (L2.wipe σ own) H5 Hs' fp' L acc g ∧ Stp H1 Hs1 fp1 H5 Hs' (fp' ++ L :: g) ∧ lcLoop own ck t tt te (ds.drop (i + 1)) acc e' = some (.ok accF eF) := fun {H5 Hs5 fp5 e5 acc5 g5} a5 st5 k5 => by
        obtain ⟨fp6, r6, h6⟩ := a5.rel.wipe (vs := own) hp
        rw [wipe_eq off4 hsl, wipe_wipe] at r6
        have nd := List.nodup_append.mp a5.nd
        exact ⟨_, Hs5, fp6, acc5, g5, ⟨r6, a5.at_, a5.no, List.nodup_append.mpr ⟨r6.nd, nd.2.1, fun a ha b hb e => nd.2.2 a (h6 a ha) b hb e⟩⟩, st5.less fun a ha => by
          rcases List.mem_append.mp ha with z | z
          · exact List.mem_append_left _ (h6 a z)
          · exact List.mem_append_right _ z, k5⟩
      have join : ∀ {H5 Hs5 : Hp} {fp5 : List Addr}, Stp H3 Hs3 fp2 H5 Hs5 fp5 → Stp H1 Hs1 fp1 H5 Hs5 (fp5 ++ L :: g) := fun {H5 Hs5 fp5} s => s5.trans (s.weak (fun b hb => List.mem_append_left _ hb) fun b hb => by
        rcases List.mem_append.mp hb with z | z
        · exact .inl z
        · exact .inr (List.mem_append_right _ z))
      unfold M.bind at k2
      dsimp only at k2
      split at k2
      · cases k2
      rotate_left
      · cases k2
      rename_i b e4 hb
      have hb' : kM K p W0 H3 Hs3 fp4 (tt e3) fun b' e' => b' = b ∧ e' = e4 := kM.noX (W := W0) (show kM K p W0 H3 Hs3 fp4 (noX tt e3) _ by rw [hb]; exact ⟨rfl, rfl⟩)
      refine ⟨e3, Hs3, fp4, r4, hb'.imp (Stp.refl _ _ _) fun b' e' hbe H5 Hs5 fp5 r5 s7 => ?_⟩
      obtain ⟨rfl, rfl⟩ := hbe
      have ac5 := ac4.keep r5 s7
      have st5 := join (s6.trans s7)
      cases b' with
      | false =>
        rw [if_neg Bool.false_ne_true] at k2
        exact iteF (next ac5 st5 k2)
      | true =>
        rw [if_pos rfl] at k2
        refine iteT ?_
        split at k2
        · cases k2
        rotate_left
        · cases k2
        rename_i o5 e5 ho
        have ho' : kM K p W0 H5 Hs5 fp5 (te e') fun o' e'' => o' = o5 ∧ e'' = e5 := kM.noX (W := W0) (show kM K p W0 H5 Hs5 fp5 (noX te e') _ by rw [ho]; exact ⟨rfl, rfl⟩)
        refine ⟨e', Hs5, fp5, r5, ho'.imp (Stp.refl _ _ _) fun o' e'' hoe y H6 Hs6 fp6 ro s8 => ?_⟩
        obtain ⟨rfl, rfl⟩ := hoe
        split at k2
        · cases k2
        rotate_left
        · cases k2
        rename_i x6 e6 hx
        have hx' : kM K p W0 H6 Hs6 fp6 (tk o' e'') fun x' e7 => x' = x6 ∧ e7 = e6 := by rw [hx]; exact ⟨rfl, rfl⟩
        obtain ⟨d7, j7, e7, Hs7, fp7, ro7, s9, hxe⟩ := tk_ok ro hx'
        obtain ⟨hx7, rfl⟩ := hxe
        subst hx7
        dsimp only at k2
        split at k2
        rotate_left
        · cases k2
        rename_i hc
        -- the element as deep as wanted
        have deep : ∃ Hs8 f8 g8, Rel K p e7 σ4 H6 Hs8 f8 ∧ Rp K H6 Hs8 d7 ck y g8 ∧ (f8 ++ g8).Nodup ∧ Stp H6 Hs7 fp7 H6 Hs8 (f8 ++ g8) := by
          rcases hc.2 with hck | hck
          · subst hck
            obtain ⟨Hs8, fp8, r8, h8, s10⟩ := frzRO ro7
            exact ⟨Hs8, fp8, [], r8, h8.2, by simpa using r8.nd, by simpa using s10⟩
          · have hck' : j7 = ck := hck
            subst hck'
            obtain ⟨f, g', rfl, r8, h8, nd8⟩ := ro7
            exact ⟨Hs7, f, g', r8, h8, nd8, Stp.refl _ _ _⟩
        obtain ⟨Hs8, f8, g8, r8, h8, nd8, s10⟩ := deep
        have sAll := (s8.trans s9).trans s10
        have ac8 := ac5.keep r8 (sAll.less fun a ha => List.mem_append_left _ ha)
        obtain ⟨av, hav, hrl⟩ := ac8.at_
        have ndc := List.nodup_append.mp ac8.nd
        -- what is new of the element is no part of the list so far
        obtain ⟨av5, hav5, hrl5⟩ := ac5.at_
        have nd5 := List.nodup_append.mp ac5.nd
        have gnew : ∀ a ∈ g8, a ∉ L :: g := fun a ha hb => by
          rcases sAll.fr a (List.mem_append_right _ ha) with z | z
          · exact nd5.2.2 a z a hb rfl
          · rcases List.mem_cons.mp hb with rfl | hb
            · rw [hav5] at z; cases z
            · obtain ⟨o, ho, _⟩ := (hrl5.own a hb).2.1
              rw [ho] at z; cases z
        refine ⟨av, hav, by rw [← hrl.len]; exact hc.1, ?_⟩
        have ndn := List.nodup_append.mp nd8
        have Lg : L ∉ g8 := fun z => gnew L z List.mem_cons_self
        have Lgg : L ∉ g := fun z => (List.nodup_cons.mp ndc.2.1).1 z
        have Lf : L ∉ f8 := fun z => ndc.2.2 L z L List.mem_cons_self rfl
        have r9 : Rel K p e7 σ4 (upd H6 L (.lst (av ++ [y]))) Hs8 f8 := r8.frame (Ex.refl _) (ex_updO r8.ex ac8.no) fun a ha => ⟨by rw [upd_ne (mem_ne ha Lf)], (r8.disj a ha).1⟩
        have hrl9 : RpL K (upd H6 L (.lst (av ++ [y]))) Hs8 acc ck av g := hrl.frame (Ex.refl _) fun a ha => ⟨by rw [upd_ne (mem_ne ha Lgg)], (hrl.own a ha).1⟩
        have hy9 : Rp K (upd H6 L (.lst (av ++ [y]))) Hs8 d7 ck y g8 := h8.frame (Ex.refl _) fun a ha => ⟨by rw [upd_ne (mem_ne ha Lg)], (h8.own a ha).1⟩
        refine next (e5 := e7) (acc5 := acc ++ [d7]) (g5 := g ++ g8) ⟨r9, ⟨av ++ [y], upd_same, hrl9.append (RpL.one hy9)⟩, ac8.no, ?_⟩ ?_ k2
        · refine List.nodup_append.mpr ⟨r8.nd, List.nodup_cons.mpr ⟨fun z => by
            rcases List.mem_append.mp z with z | z
            · exact Lgg z
            · exact Lg z, List.nodup_append.mpr ⟨(List.nodup_cons.mp ndc.2.1).2, ndn.2.1, fun a ha b hb e => gnew b hb (List.mem_cons_of_mem _ (e ▸ ha))⟩⟩, fun a ha b hb e => ?_⟩
          rcases List.mem_cons.mp hb with rfl | hb
          · exact Lf (e ▸ ha)
          · rcases List.mem_append.mp hb with hb | hb
            · exact ndc.2.2 a ha b (List.mem_cons_of_mem _ hb) e
            · exact ndn.2.2 a ha b hb e
        · have st8 : Stp H1 Hs1 fp1 H6 Hs8 ((f8 ++ g8) ++ L :: g) := join ((s6.trans s7).trans sAll)
          have wr : Stp H6 Hs8 ((f8 ++ g8) ++ L :: g) (upd H6 L (.lst (av ++ [y]))) Hs8 (f8 ++ L :: (g ++ g8)) := by
            refine ⟨Ex.refl _, fun b o h n => by rw [upd_ne (fun z => n (by rw [z]; simp))]; exact h, fun b h => .inl h, fun b hb => .inl ?_, fun b h => upd_none h⟩
            simp at hb ⊢
            rcases hb with z | z | z | z <;> simp [z]
          exact st8.trans wr
  · have e0 : i = ds.length := by omega
    subst e0
    rw [List.drop_length] at k2
    unfold lcLoop at k2
    cases k2
    refine .inl ⟨wk.stop H' Hs2 s2.ex ac.rel.ex, ?_⟩
    have rr : Rel K p eF σ H' Hs2 fp2 := ⟨ac.rel.ex, ac.rel.sl.reslot (by rw [wipe_length]) fun i x hx => by
      by_cases hio : i ∈ own
      · obtain ⟨hi, _⟩ := List.getElem?_eq_some_iff.mp hx
        obtain ⟨x', s', f1, f2, f3, q1, q2, _, q4, _⟩ := ac.rel.sl.lens i hi
        rw [hx] at q1
        cases q1
        obtain ⟨v, hv, _⟩ := q4
        have hl : i < σ.length := by have := ac.rel.sl.len; rw [wipe_length] at this; omega
        rw [wipe_in hio hl] at q2
        cases q2
        cases hv
      · rw [wipe_off hio], ac.rel.nd, fun y hy => by have := ac.rel.pn y hy; rw [wipe_off (hp y hy)] at this; exact this⟩
    obtain ⟨fp9, r9, h9⟩ := Rel.rest (vs := own) (e0 := e1) (fun i d hd => by
      have hi := (List.getElem?_eq_some_iff.mp hd).1
      obtain ⟨x, s, f1, f2, f3, q1, q2, _, q4, _⟩ := r1.sl.lens i hi
      rw [hd] at q1
      cases q1
      obtain ⟨v, rfl, hr⟩ := q4
      have := hr.fp0
      subst this
      exact ⟨v, q2, hr.still s2.ex⟩) rr
    obtain ⟨av, hav, hrl⟩ := ac.at_
    have nd := List.nodup_append.mp ac.nd
    refine k1 (.ref L) H' Hs2 (fp9 ++ L :: g) ⟨fp9, L :: g, rfl, r9, ⟨L, av, g, rfl, hrl, .inr ⟨Nat.succ_pos _, hav, ac.no, rfl⟩⟩, List.nodup_append.mpr ⟨r9.nd, nd.2.1, fun a ha b hb e => nd.2.2 a (h9 a ha) b hb e⟩⟩ (s1.trans (s2.less fun a ha => by
      rcases List.mem_append.mp ha with z | z
      · exact List.mem_append_left _ (h9 a z)
      · exact List.mem_append_right _ z))
end
end Rf
/-! Rf, part E: what a def promises; calls; the syntax of loops. -/
namespace Rf
open PySem PySem.Spec PyProof.Rows L2
open Evl (Ex)
/-- what a def gives -/
inductive Ro where
  | ret (d : D) (k : Nat) (io : List D)
  | exc (C : Addr) (x : D) (io : List D)
section
variable (K : PySem.W.Frag) (H Hs : Hp)
/-- the arguments: ks tells how deep each is handed over (0: to be read alone) -/
def RpM : List D → List Nat → List V → List Addr → Prop
  | [], [], vs, fp => vs = [] ∧ fp = []
  | d :: ds, k :: ks, vs, fp => ∃ v r f g, vs = v :: r ∧ fp = f ++ g ∧ Rp K H Hs d k v f ∧ RpM ds ks r g
  | _, _, _, _ => False
end
def spOf (K : PySem.W.Frag) (ks : List Nat) (F : List D → Option Ro) : Sp := fun vs H Q E => ∃ ds Hs fp, Ex Hs H ∧ fp.Nodup ∧ RpM K H Hs ds ks vs fp ∧ match F ds with
  | none => False
  | some (.ret d k io) => ∀ v H' Hs' f g, Ex Hs' H' → RpM K H' Hs' io ks vs f → Rp K H' Hs' d k v g → (f ++ g).Nodup → Stp H Hs fp H' Hs' (f ++ g) → Q v H'
  | some (.exc C x io) => ∀ dx v H' Hs' f, Ex Hs' H' → RpM K H' Hs' io ks vs f → f.Nodup → Rp K H' Hs' x 0 v [] → H' dx = some (.xd [("value", v)]) → H dx = none → Hs' dx = none → dx ∉ f → Stp H Hs fp H' Hs' f → E (.ref C) (some dx) H'
/-- the frame at the start; what is told at the end -/
def en0 (n : Nat) : List Nat → List D → En
  | k :: ks, d :: ds => some (d, k) :: en0 (n - 1) ks ds
  | _, _ => List.replicate n none
def outs : List Nat → List D → En → Option (List D)
  | [], _, _ => some []
  | 0 :: ks, d :: ds, _ :: e => (outs ks ds e).map (d :: ·)
  | (k + 1) :: ks, _ :: ds, some (d', j) :: e => if j = k + 1 then (outs ks ds e).map (d' :: ·) else none
  | _, _, _ => none
def runFn (m : M Fl) (n : Nat) (ks : List Nat) (ds : List D) : Option Ro := if ds.length = ks.length then match m (en0 n ks ds) with
  | some (.ok (.ret d k) e) => (outs ks ds e).map (Ro.ret d k)
  | some (.ok .nx e) => (outs ks ds e).map (Ro.ret .non 0)
  | some (.exc C x e) => (outs ks ds e).map (Ro.exc C x)
  | _ => none
  else none
def pinsOf : Nat → List Nat → List V → Pins
  | i, 0 :: ks, _ :: vs => pinsOf (i + 1) ks vs
  | i, _ :: ks, v :: vs => (i, v) :: pinsOf (i + 1) ks vs
  | _, _, _ => []
/-- the slots that are handed over -/
def pinned : Nat → List Nat → List Nat
  | i, 0 :: ks => pinned (i + 1) ks
  | i, _ :: ks => i :: pinned (i + 1) ks
  | _, [] => []
theorem pins_in : ∀ {i : Nat} {ks : List Nat} {vs : List V}, ∀ q ∈ pinsOf i ks vs, q.1 ∈ pinned i ks
  | i, [], vs, q, h => by simp [pinsOf] at h
  | i, 0 :: ks, [], q, h => by simp [pinsOf] at h
  | i, (k + 1) :: ks, [], q, h => by simp [pinsOf] at h
  | i, 0 :: ks, v :: vs, q, h => by
    unfold pinsOf at h
    unfold pinned
    exact pins_in q h
  | i, (k + 1) :: ks, v :: vs, q, h => by
    unfold pinsOf at h
    unfold pinned
    rcases List.mem_cons.mp h with rfl | h
    · exact List.mem_cons_self
    · exact List.mem_cons_of_mem _ (pins_in q h)
theorem np {p : Pins} {L : List Nat} {i : Nat} (h : ∀ q ∈ p, q.1 ∈ L) (hi : i ∉ L) : ∀ q ∈ p, q.1 ≠ i := fun q hq e => hi (e ▸ h q hq)
section
variable {K : PySem.W.Frag} {H H' Hs Hs' : Hp}
theorem RpM.len : ∀ {ds : List D} {ks : List Nat} {vs : List V} {fp : List Addr}, RpM K H Hs ds ks vs fp → vs.length = ks.length ∧ ds.length = ks.length
  | [], [], vs, fp, h => by rw [h.1]; exact ⟨rfl, rfl⟩
  | d :: ds, k :: ks, vs, fp, h => by
    obtain ⟨v, r, f, g, rfl, rfl, h1, h2⟩ := h
    have := RpM.len h2
    exact ⟨by rw [List.length_cons, List.length_cons, this.1], by rw [List.length_cons, List.length_cons, this.2]⟩
  | [], _ :: _, _, _, h => h.elim
  | _ :: _, [], _, _, h => h.elim
theorem sl_none : ∀ n : Nat, Sl K H Hs (List.replicate n none) (List.replicate n none) []
  | 0 => ⟨rfl, rfl⟩
  | n + 1 => ⟨none, List.replicate n none, [], [], rfl, rfl, rfl, sl_none n⟩
theorem sl_en0 : ∀ {ds : List D} {ks : List Nat} {vs : List V} {fp : List Addr} {n : Nat}, ks.length ≤ n → RpM K H Hs ds ks vs fp → Sl K H Hs (en0 n ks ds) (vs.map some ++ List.replicate (n - vs.length) none) fp
  | [], [], vs, fp, n, _, h => by
    obtain ⟨rfl, rfl⟩ := h
    exact sl_none n
  | d :: ds, k :: ks, vs, fp, n, hn, h => by
    obtain ⟨v, r, f, g, rfl, rfl, h1, h2⟩ := h
    refine ⟨some v, _, f, g, rfl, rfl, ⟨v, rfl, h1⟩, ?_⟩
    have := sl_en0 (n := n - 1) (by simp at hn; omega) h2
    rw [show n - (v :: r).length = n - 1 - r.length by rw [List.length_cons]; omega]
    exact this
  | [], _ :: _, _, _, _, _, h => h.elim
  | _ :: _, [], _, _, _, _, h => h.elim
theorem pins_ok : ∀ {ks : List Nat} {vs : List V} {i : Nat} {σ : L2.St}, (∀ (j : Nat) (v : V), vs[j]? = some v → σ[i + j]? = some (some v)) → ∀ q ∈ pinsOf i ks vs, σ[q.1]? = some (some q.2)
  | [], vs, i, σ, _, q, h => by simp [pinsOf] at h
  | 0 :: ks, [], i, σ, _, q, h => by simp [pinsOf] at h
  | (k + 1) :: ks, [], i, σ, _, q, h => by simp [pinsOf] at h
  | 0 :: ks, v :: vs, i, σ, hs, q, h => by
    unfold pinsOf at h
    exact pins_ok (i := i + 1) (fun j u hj => by have := hs (j + 1) u (by simpa using hj); rwa [show i + 1 + j = i + (j + 1) by omega]) q h
  | (k + 1) :: ks, v :: vs, i, σ, hs, q, h => by
    unfold pinsOf at h
    rcases List.mem_cons.mp h with rfl | h
    · exact hs 0 v rfl
    · exact pins_ok (i := i + 1) (fun j u hj => by have := hs (j + 1) u (by simpa using hj); rwa [show i + 1 + j = i + (j + 1) by omega]) q h
/-- the end: what was handed over, as it is now -/
theorem outs_ok {H0 Hs0 : Hp} : ∀ {ks : List Nat} {ds : List D} {vs : List V} {fp0 : List Addr} {e : En} {σ : L2.St} {fp : List Addr} {io : List D}, RpM K H0 Hs0 ds ks vs fp0 → Ex Hs0 Hs → Sl K H Hs e σ fp →
    (∀ (j k : Nat) (v : V), ks[j]? = some (k + 1) → vs[j]? = some v → σ[j]? = some (some v)) → outs ks ds e = some io → ∃ f, RpM K H Hs io ks vs f ∧ f.Sublist fp
  | [], ds, vs, fp0, e, σ, fp, io, h, _, _, _, ho => by
    cases ds with
    | nil => cases ho; exact ⟨[], ⟨h.1, rfl⟩, List.nil_sublist _⟩
    | cons _ _ => exact h.elim
  | 0 :: ks, [], _, _, _, _, _, _, h, _, _, _, _ => h.elim
  | (k + 1) :: ks, [], _, _, _, _, _, _, h, _, _, _, _ => h.elim
  | 0 :: ks, d :: ds, vs, fp0, e, σ, fp, io, h, ex, sl, hp, ho => by
    obtain ⟨v, r, f, g, rfl, rfl, h1, h2⟩ := h
    cases e with
    | nil => cases ho
    | cons x e =>
      obtain ⟨s, σ', f', g', rfl, rfl, q1, q2⟩ := sl
      obtain ⟨io', hio, rfl⟩ := Option.map_eq_some_iff.mp (show (outs ks ds e).map (d :: ·) = some io from ho)
      obtain ⟨f2, r1, r2⟩ := outs_ok h2 ex q2 (fun j k u a b => by have := hp (j + 1) k u (by simpa using a) (by simpa using b); simpa using this) hio
      have := h1.fp0
      subst this
      exact ⟨f2, ⟨v, r, [], f2, rfl, rfl, h1.still ex, r1⟩, r2.trans (List.sublist_append_right _ _)⟩
  | (k + 1) :: ks, d :: ds, vs, fp0, e, σ, fp, io, h, ex, sl, hp, ho => by
    obtain ⟨v, r, f, g, rfl, rfl, h1, h2⟩ := h
    cases e with
    | nil => cases ho
    | cons x e =>
      obtain ⟨s, σ', f', g', rfl, rfl, q1, q2⟩ := sl
      cases x with
      | none => cases ho
      | some x =>
        obtain ⟨d', j⟩ := x
        have ho' : (if j = k + 1 then (outs ks ds e).map (d' :: ·) else none) = some io := ho
        split at ho'
        · rename_i hj
          subst hj
          obtain ⟨io', hio, rfl⟩ := Option.map_eq_some_iff.mp ho'
          obtain ⟨f2, r1, r2⟩ := outs_ok h2 ex q2 (fun j k u a b => by have := hp (j + 1) k u (by simpa using a) (by simpa using b); simpa using this) hio
          obtain ⟨u, hu, hr⟩ := q1
          have hs := hp 0 k v rfl rfl
          simp at hs
          rw [hu] at hs
          cases hs
          exact ⟨f' ++ f2, ⟨v, r, f', f2, rfl, rfl, hr, r1⟩, List.Sublist.append (List.Sublist.refl _) r2⟩
        · cases ho'
theorem pins_get : ∀ {ks : List Nat} {vs : List V} {i j k : Nat} {v : V}, ks[j]? = some (k + 1) → vs[j]? = some v → (i + j, v) ∈ pinsOf i ks vs
  | [], vs, i, j, k, v, h, _ => by simp at h
  | 0 :: ks, [], i, j, k, v, _, h => by simp at h
  | (k' + 1) :: ks, [], i, j, k, v, _, h => by simp at h
  | 0 :: ks, u :: vs, i, 0, k, v, h, h' => by simp at h
  | 0 :: ks, u :: vs, i, j + 1, k, v, h, h' => by
    unfold pinsOf
    have := pins_get (i := i + 1) (ks := ks) (vs := vs) (j := j) (k := k) (v := v) (by simpa using h) (by simpa using h')
    rwa [show i + 1 + j = i + (j + 1) by omega] at this
  | (k' + 1) :: ks, u :: vs, i, 0, k, v, h, h' => by
    unfold pinsOf
    simp at h'
    subst h'
    exact List.mem_cons_self
  | (k' + 1) :: ks, u :: vs, i, j + 1, k, v, h, h' => by
    unfold pinsOf
    have := pins_get (i := i + 1) (ks := ks) (vs := vs) (j := j) (k := k) (v := v) (by simpa using h) (by simpa using h')
    rw [show i + 1 + j = i + (j + 1) by omega] at this
    exact List.mem_cons_of_mem _ this
/-- a body that m describes keeps the promise of runFn m -/
theorem body_ok {N ps : List Str} {ks : List Nat} {m : M Fl} {vs : List V} {Q : VK} {E : XK} {W : WX} (hn : ks.length ≤ N.length) (h : spOf K ks (runFn m N.length ks) vs H Q E) (hW : ∀ cls d σ H, E cls d H → W cls d σ H) :
    tMS K (pinsOf 0 ks vs) W m { nx := fun _ H' => Q .non H', rt := Q } (L2.start N vs) H := by
  obtain ⟨ds, Hs, fp, ex, nd, hr, hm⟩ := h
  have hl := hr.len
  have rel : Rel K (pinsOf 0 ks vs) (en0 N.length ks ds) (L2.start N vs) H Hs fp := ⟨ex, sl_en0 hn hr, nd, pins_ok (σ := L2.start N vs) fun j v hj => by
    unfold L2.start
    rw [Nat.zero_add, List.getElem?_append_left (by rw [List.length_map]; exact (List.getElem?_eq_some_iff.mp hj).1), List.getElem?_map, hj]
    rfl⟩
  refine ⟨en0 N.length ks ds, Hs, fp, rel, ?_⟩
  have hm' : match runFn m N.length ks ds with
    | none => False
    | some (.ret d k io) => ∀ v H' Hs' f g, Ex Hs' H' → RpM K H' Hs' io ks vs f → Rp K H' Hs' d k v g → (f ++ g).Nodup → Stp H Hs fp H' Hs' (f ++ g) → Q v H'
    | some (.exc C x io) => ∀ dx v H' Hs' f, Ex Hs' H' → RpM K H' Hs' io ks vs f → f.Nodup → Rp K H' Hs' x 0 v [] → H' dx = some (.xd [("value", v)]) → H dx = none → Hs' dx = none → dx ∉ f → Stp H Hs fp H' Hs' f → E (.ref C) (some dx) H' := hm
  unfold runFn at hm'
  rw [if_pos hl.2] at hm'
  have fin : ∀ {e' : En} {σ' : L2.St} {H' Hs' : Hp} {fp' : List Addr} {io : List D}, Rel K (pinsOf 0 ks vs) e' σ' H' Hs' fp' → Ex Hs Hs' → outs ks ds e' = some io → ∃ f, RpM K H' Hs' io ks vs f ∧ f.Sublist fp' := fun {e' σ' H' Hs' fp' io} r ex' ho => by
    refine outs_ok hr ex' r.sl (fun j k v a b => ?_) ho
    have := r.pn _ (pins_get (i := 0) a b)
    simpa using this
  split at hm'
  · exact hm'.elim
  · rename_i d k io hio
    split at hio
    · rename_i d' k' e' hme
      rw [hme]
      obtain ⟨io', ho, hz⟩ := Option.map_eq_some_iff.mp hio
      cases hz
      intro v σ' H' Hs' fp' ro st
      obtain ⟨f0, g, rfl, r, hrp, nd'⟩ := ro
      obtain ⟨f, h1, h2⟩ := fin r st.ex ho
      exact hm' v H' Hs' f g r.ex h1 hrp (nd'.sublist (List.Sublist.append h2 (List.Sublist.refl _))) (st.less fun a ha => by
        rcases List.mem_append.mp ha with z | z
        · exact List.mem_append_left _ (h2.subset z)
        · exact List.mem_append_right _ z)
    · rename_i e' hme
      rw [hme]
      obtain ⟨io', ho, hz⟩ := Option.map_eq_some_iff.mp hio
      cases hz
      intro σ' H' Hs' fp' r st
      obtain ⟨f, h1, h2⟩ := fin r st.ex ho
      exact hm' .non H' Hs' f [] r.ex h1 ⟨rfl, rfl⟩ (by simpa using r.nd.sublist h2) (st.less fun a ha => h2.subset (by simpa using ha))
    · obtain ⟨io', ho, hz⟩ := Option.map_eq_some_iff.mp hio
      cases hz
    · cases hio
  · rename_i C x io hio
    split at hio
    · obtain ⟨io', ho, hz⟩ := Option.map_eq_some_iff.mp hio
      cases hz
    · obtain ⟨io', ho, hz⟩ := Option.map_eq_some_iff.mp hio
      cases hz
    · rename_i C' x' e' hme
      rw [hme]
      obtain ⟨io', ho, hz⟩ := Option.map_eq_some_iff.mp hio
      cases hz
      intro σ' dx v H' Hs' fp' r hx hd hn0 hs hf st
      obtain ⟨f, h1, h2⟩ := fin r st.ex ho
      exact hW _ _ _ _ (hm' dx v H' Hs' f r.ex h1 (r.nd.sublist h2) hx hd hn0 hs (fun z => hf (h2.subset z)) (st.less fun a ha => h2.subset ha))
    · cases hio
end
section
variable {P : Program} {w : World} {K : PySem.W.Frag} {mg : Str → Option Value} {base : Heap}
theorem sp_len {ks : List Nat} {F : List D → Option Ro} {n : Nat} (hk : ks.length = n) : ∀ vs H Q E, spOf K ks F vs H Q E → vs.length = n := fun vs H Q E h => by
  obtain ⟨ds, Hs, fp, _, _, hr, _⟩ := h
  rw [hr.len.1, hk]
/-- .. of a def that raises nothing -/
def runFn0 (m : M Fl) (n : Nat) (ks : List Nat) (ds : List D) : Option Ro := match runFn m n ks ds with
  | some (.ret d k io) => some (.ret d k io)
  | _ => none
theorem sp0 {m : M Fl} {n : Nat} {ks : List Nat} {vs : List V} {H : Hp} {Q : VK} {E E' : XK} (h : spOf K ks (runFn0 m n ks) vs H Q E) : spOf K ks (runFn m n ks) vs H Q E' := by
  obtain ⟨ds, Hs, fp, ex, nd, hr, hm⟩ := h
  refine ⟨ds, Hs, fp, ex, nd, hr, ?_⟩
  unfold runFn0 at hm
  cases hq : runFn m n ks ds with
  | none => rw [hq] at hm; exact hm.elim
  | some r =>
    rw [hq] at hm
    cases r with
    | ret d k io => exact hm
    | exc C x io => exact hm.elim
/-- THE RULE for a def that nothing raised leaves -/
theorem fn0 {x qual : Str} {st : Stmt} {f : Addr} {fd : FuncData} {N ps : List Str} {k : Nat} {ks : List Nat} {m : M Fl} (F : Fun K x qual st f fd) (S : FnScope N ps (defScope st)) (hk : ks.length = ps.length) (hn : ks.length ≤ N.length)
    (body : ∀ (cdv : Value) (A : Around) (outer : List Env) (s : Shared) (H : Hp) (E : XK) (p : Pins), Room k (A.deeper (envOfC qual (defScope st) s.heap.objs.size f cdv)) → (∀ q ∈ p, q.1 ∈ pinned 0 ks) →
      RSs (cxOf CX0 P w K mg base N qual (defScope st) f cdv A outer s H E).nox p W0 (defBody st) m) : FnOk P w K mg base CX0 (k + 1) f fd ps (spOf K ks (runFn0 m N.length ks)) := by
  refine F.ok S (sp_len hk) fun cdv A outer s H vs Q E hr h => ⟨_, (body cdv A outer s H E (pinsOf 0 ks vs) hr pins_in).ps, ?_⟩
  exact body_ok (ps := ps) (E := fun _ _ _ => False) (W := W0) hn (sp0 h) fun _ _ _ _ z => z
/-- .. for a def that may raise -/
theorem fnX {x qual : Str} {st : Stmt} {f : Addr} {fd : FuncData} {N ps : List Str} {k : Nat} {ks : List Nat} {m : M Fl} (F : Fun K x qual st f fd) (S : FnScope N ps (defScope st)) (hk : ks.length = ps.length) (hn : ks.length ≤ N.length)
    (body : ∀ (cdv : Value) (A : Around) (outer : List Env) (s : Shared) (H : Hp) (E : XK) (p : Pins), Room k (A.deeper (envOfC qual (defScope st) s.heap.objs.size f cdv)) → (∀ q ∈ p, q.1 ∈ pinned 0 ks) →
      RSs (cxOf (L2.CX P w) P w K mg base N qual (defScope st) f cdv A outer s H E) p (fun cls d _ H => E cls d H) (defBody st) m) : FnOk P w K mg base (L2.CX P w) (k + 1) f fd ps (spOf K ks (runFn m N.length ks)) := by
  refine F.okX S (sp_len hk) fun cdv A outer s H vs Q E hr h => ⟨_, (body cdv A outer s H E (pinsOf 0 ks vs) hr pins_in).ps, ?_⟩
  exact body_ok (ps := ps) hn h fun _ _ _ _ z => z
end
/-! ### calls -/
mutual
/-- a thing that no list that stands still is a part of -/
def reg : D → Nat → Bool
  | .non, _ => true
  | .bl _, _ => true
  | .int _, _ => true
  | .str _, _ => true
  | .lst ds, k => decide (0 < k) && regL ds (k - 1)
  | .tup ds, k => regL ds (k - 1)
  | .kls _, _ => false
  | .dct _ _ ds, k => decide (0 < k) && regL ds (k - 1)
  | .obj _ _ ds, k => decide (0 < k) && regL ds (k - 1)
def regL : List D → Nat → Bool
  | [], _ => true
  | d :: ds, k => reg d k && regL ds k
end
section
variable {K : PySem.W.Frag} {H H' Hs Hs' : Hp}
mutual
theorem Rp.loose (ht : ∀ b xs, Hs b = some (.tup xs) → Hs' b = some (.tup xs)) : ∀ {d : D} {k : Nat} {v : V} {fp : List Addr}, Rp K H Hs d k v fp → reg d k = true → (∀ a ∈ fp, Hs' a = none) → Rp K H Hs' d k v fp
  | .non, _, _, _, h, _, _ => h
  | .bl _, _, _, _, h, _, _ => h
  | .int _, _, _, _, h, _, _ => h
  | .str _, _, _, _, h, _, _ => h
  | .lst ds, k, v, fp, h, e, q => by
    obtain ⟨a, vs, f, rfl, hl, hc⟩ := h
    simp only [reg, Bool.and_eq_true, decide_eq_true_eq] at e
    rcases hc with ⟨rfl, h1, rfl⟩ | ⟨hk, h1, h2, rfl⟩
    · exact absurd e.1 (Nat.lt_irrefl _)
    · exact ⟨a, vs, f, rfl, RpL.loose ht hl e.2 (fun b hb => q b (List.mem_cons_of_mem _ hb)), .inr ⟨hk, h1, q a List.mem_cons_self, rfl⟩⟩
  | .tup ds, k, v, fp, h, e, q => by
    obtain ⟨a, vs, rfl, hl, hc⟩ := h
    exact ⟨a, vs, rfl, RpL.loose ht hl e q, ht _ _ hc⟩
  | .kls ds, k, v, fp, h, e, q => by cases e
  | .dct t ks ds, k, v, fp, h, e, q => by
    obtain ⟨a, vs, f, rfl, hl, hz, hy, o, ho, hc⟩ := h
    simp only [reg, Bool.and_eq_true, decide_eq_true_eq] at e
    rcases hc with ⟨rfl, h1, rfl⟩ | ⟨hk, h1, h2, rfl⟩
    · exact absurd e.1 (Nat.lt_irrefl _)
    · exact ⟨a, vs, f, rfl, RpL.loose ht hl e.2 (fun b hb => q b (List.mem_cons_of_mem _ hb)), hz, hy, o, ho, .inr ⟨hk, h1, q a List.mem_cons_self, rfl⟩⟩
  | .obj C fs ds, k, v, fp, h, e, q => by
    obtain ⟨a, vs, f, dx, rfl, hl, hz, o, ho, hc⟩ := h
    simp only [reg, Bool.and_eq_true, decide_eq_true_eq] at e
    rcases hc with ⟨rfl, h1, rfl⟩ | ⟨hk, h1, h2, rfl⟩
    · exact absurd e.1 (Nat.lt_irrefl _)
    · exact ⟨a, vs, f, dx, rfl, RpL.loose ht hl e.2 (fun b hb => q b (List.mem_cons_of_mem _ hb)), hz, o, ho, .inr ⟨hk, h1, q a List.mem_cons_self, rfl⟩⟩
theorem RpL.loose (ht : ∀ b xs, Hs b = some (.tup xs) → Hs' b = some (.tup xs)) : ∀ {ds : List D} {k : Nat} {vs : List V} {fp : List Addr}, RpL K H Hs ds k vs fp → regL ds k = true → (∀ a ∈ fp, Hs' a = none) → RpL K H Hs' ds k vs fp
  | [], _, _, _, h, _, _ => h
  | d :: ds, k, vs, fp, h, e, q => by
    obtain ⟨v, r, f, g, rfl, rfl, h1, h2⟩ := h
    simp only [regL, Bool.and_eq_true] at e
    exact ⟨v, r, f, g, rfl, rfl, Rp.loose ht h1 e.1 (fun a ha => q a (List.mem_append_left _ ha)), RpL.loose ht h2 e.2 (fun a ha => q a (List.mem_append_right _ ha))⟩
end
end
/-- the data of the operands, each to be read alone -/
def ag0 (e : En) : List Op → Option (List D)
  | [] => some []
  | o :: os => (pk e o).bind fun x => (ag0 e os).map (x.1 :: ·)
/-- slots put still -/
def frzAll (e : En) : List Op → En
  | [] => e
  | .sl i :: os => frzAll (match e[i]? with
    | some (some (d, _)) => e.set i (some (d, 0))
    | _ => e) os
  | _ :: os => frzAll e os
/-- is any operand an owned slot -/
def anyOwn (e : En) : List Op → Bool
  | [] => false
  | o :: os => (match pk e o with
    | some (_, 0) => false
    | _ => true) || anyOwn e os
section
variable {K : PySem.W.Frag} {p : Pins} {W : WX} {e e' : En} {σ : L2.St} {H H1 H' Hs Hs1 Hs' : Hp} {fp fp1 fp' : List Addr}
theorem ag0_ok : ∀ {os : List Op} {vs : List V} {ds : List D}, Rel K p e σ H Hs fp → Paired (RO1 K σ H Hs) os vs → ag0 e os = some ds → ∃ fB : List Addr, (∀ a ∈ fB, a ∈ fp) ∧ (anyOwn e os = false → fB = []) ∧
    ∀ Hs2, Ex Hs Hs2 → (∀ a ∈ fB, Hs2 a = H a) → RpM K H Hs2 ds (List.replicate os.length 0) vs []
  | [], vs, ds, r, h, hp => by
    cases h
    cases hp
    exact ⟨[], (fun _ z => nomatch z), (fun _ => rfl), fun _ _ _ => ⟨rfl, rfl⟩⟩
  | o :: os, vs, ds, r, h, hp => by
    cases h with
    | cons h1 h2 =>
      obtain ⟨x, hx, hp⟩ := Option.bind_eq_some_iff.mp hp
      obtain ⟨ds', hd, rfl⟩ := Option.map_eq_some_iff.mp hp
      obtain ⟨f, hr, hf⟩ := pk_rp r h1 hx
      obtain ⟨fB, q1, q2, q3⟩ := ag0_ok r h2 hd
      refine ⟨f ++ fB, fun a ha => (List.mem_append.mp ha).elim (hf a) (q1 a), fun hn => ?_, fun Hs2 ex q => ?_⟩
      · unfold anyOwn at hn
        rw [Bool.or_eq_false_iff] at hn
        rw [q2 hn.2, List.append_nil]
        obtain ⟨d, k⟩ := x
        have h3 := hn.1
        rw [hx] at h3
        cases k with
        | zero => exact hr.fp0
        | succ k => cases h3
      · exact ⟨_, _, [], [], rfl, rfl, hr.freeze ex fun a ha => q a (List.mem_append_left _ ha), q3 Hs2 ex fun a ha => q a (List.mem_append_right _ ha)⟩
/-- what stood still, without fB -/
def cutH (Hs : Hp) (fB : List Addr) : Hp := fun b => if b ∈ fB then none else Hs b
theorem cut_out {fB : List Addr} {b : Addr} (h : b ∉ fB) : cutH Hs fB b = Hs b := if_neg h
theorem cut_in {fB : List Addr} {b : Addr} (h : b ∈ fB) : cutH Hs fB b = none := if_pos h
/-- behind a call: the frame e is as it was (fB: what was lent; fI: what was handed over) -/
theorem call_back {fB fI f : List Addr} (r : Rel K p e σ H Hs fp) (hB : ∀ a ∈ fB, a ∈ fp) (hI : ∀ a ∈ fI, Hs a = none ∧ ∃ o, H a = some o) (nd : ∀ a ∈ fp, a ∉ fI) (st : Stp H (put H Hs fB) fI H' Hs' f) (ex : Ex Hs' H') (hf : ∀ a ∈ f, Hs' a = none) :
    Rel K p e σ H' (cutH Hs' fB) fp ∧ Stp H Hs (fp ++ fI) H' (cutH Hs' fB) (fp ++ f) ∧ (∀ a ∈ f, a ∉ fp) := by
  have nB : ∀ a ∈ fB, Hs a = none := fun a ha => (r.disj a (hB a ha)).1
  have ex1 : Ex Hs (cutH Hs' fB) := fun a o h => by
    have n : a ∉ fB := fun z => by rw [nB a z] at h; cases h
    rw [cut_out n]
    exact st.ex a o (by rw [put_out n]; exact h)
  have ex2 : Ex (cutH Hs' fB) H' := fun a o h => by
    by_cases n : a ∈ fB
    · rw [cut_in n] at h; cases h
    · rw [cut_out n] at h; exact ex a o h
  have nS : ∀ a ∈ fp, cutH Hs' fB a = none := fun a ha => by
    by_cases n : a ∈ fB
    · exact cut_in n
    · rw [cut_out n]
      obtain ⟨h1, o, h2⟩ := r.disj a ha
      cases z : Hs' a with
      | none => rfl
      | some u =>
        rcases st.nw a (by rw [z]; simp) with m | m | m
        · rw [put_out n] at m; exact absurd h1 m
        · exact absurd m (nd a ha)
        · rw [h2] at m; cases m
  refine ⟨r.frame ex1 ex2 fun a ha => ⟨?_, nS a ha⟩, ⟨ex1, fun b o h n => st.kp b o h fun z => n (List.mem_append_right _ z), fun b h => ?_, fun b hb => ?_, st.tr⟩, fun a ha hb => ?_⟩
  · obtain ⟨h1, o, h2⟩ := r.disj a ha
    exact (st.kp a o h2 (nd a ha)).trans h2.symm
  · by_cases n : b ∈ fB
    · rw [cut_in n] at h; exact absurd rfl h
    · rw [cut_out n] at h
      rcases st.nw b h with m | m | m
      · rw [put_out n] at m; exact .inl m
      · exact .inr (.inl (List.mem_append_right _ m))
      · exact .inr (.inr m)
  · rcases List.mem_append.mp hb with z | z
    · exact .inl (List.mem_append_left _ z)
    · rcases st.fr b z with z | z
      · exact .inl (List.mem_append_right _ z)
      · exact .inr z
  · rcases st.fr a ha with z | z
    · exact nd a hb z
    · obtain ⟨_, o, h2⟩ := r.disj a hb
      rw [h2] at z; cases z
theorem frzAll_ok : ∀ {os : List Op} {e : En} {Hs : Hp} {fp : List Addr}, Rel K p e σ H Hs fp → ∃ Hs' fp', Rel K p (frzAll e os) σ H Hs' fp' ∧ Stp H Hs fp H Hs' fp'
  | [], e, Hs, fp, r => ⟨Hs, fp, r, Stp.refl _ _ _⟩
  | .val d k :: os, e, Hs, fp, r => frzAll_ok (os := os) r
  | .sl i :: os, e, Hs, fp, r => by
    unfold frzAll
    split
    · rename_i d k hd
      obtain ⟨v, Hs1, fp1, _, r1, _, s1⟩ := r.freeze hd
      obtain ⟨Hs2, fp2, r2, s2⟩ := frzAll_ok (os := os) r1
      exact ⟨Hs2, fp2, r2, s1.trans s2⟩
    · exact frzAll_ok r
/-- the frame behind a call: lent things are owned again where nothing can be a part of them -/
def callEn (e : En) (os : List Op) (ds : List D) (keep : Bool) : Option En := if (keep || !anyOwn e os) = true then some e
  else if ag0 (frzAll e os) os = some ds ∧ anyOwn (frzAll e os) os = false then some (frzAll e os) else none
def mCall (G : List D → Option Ro) (ms : M (List Op)) : M Op := ms.bind fun os e => match ag0 e os with
  | none => none
  | some ds => match G ds with
    | none => none
    | some (.ret d k _) => (callEn e os ds (reg d k)).map fun e' => .ok (.val d k) e'
    | some (.exc C x _) => if reg x 0 = true then some (.exc C x e) else none
theorem rpM_rep {ds : List D} {n : Nat} {vs : List V} {fp : List Addr} (h : RpM K H Hs ds (List.replicate n 0) vs fp) : fp = [] := by
  induction n generalizing ds vs fp with
  | zero =>
    cases ds with
    | nil => exact h.2
    | cons _ _ => exact h.elim
  | succ n ih =>
    cases ds with
    | nil => exact h.elim
    | cons d ds =>
      obtain ⟨v, r, f, g, rfl, rfl, h1, h2⟩ := h
      have := h1.fp0
      subst this
      exact ih h2
theorem tups_cut {fB : List Addr} (hB : ∀ a ∈ fB, ∃ o, Hs a = some o ∧ ∀ xs, o ≠ .tup xs) : ∀ b xs, Hs b = some (.tup xs) → cutH Hs fB b = some (.tup xs) := fun b xs h => by
  by_cases n : b ∈ fB
  · obtain ⟨o, h1, h2⟩ := hB b n
    rw [h] at h1
    cases h1
    exact absurd rfl (h2 xs)
  · rw [cut_out n]; exact h
theorem ro_new {d : D} {k : Nat} {v : V} {g : List Addr} (r : Rel K p e σ H Hs fp) (h : Rp K H Hs d k v g) (nd : g.Nodup) (dis : ∀ a ∈ g, a ∉ fp) : RO K p e σ H Hs (fp ++ g) (.val d k) v :=
  ⟨fp, g, rfl, r, h, List.nodup_append.mpr ⟨r.nd, nd, fun a ha b hb e => dis b hb (e ▸ ha)⟩⟩
/-- a call: one that lends alone -/
theorem t_call {G : List D → Option Ro} {ms : M (List Op)} {n : Nat} {Q : VK} (hl : ∀ e os e', ms e = some (.ok os e') → os.length = n) (q : tM K p W (mCall G ms) σ H Q) : tMA K p W ms σ H fun vs H1 => spOf K (List.replicate n 0) G vs H1 Q (fun cls d H => W cls d σ H) := by
  obtain ⟨e, Hs, fp, r, q⟩ := q
  refine ⟨e, Hs, fp, r, q.bind.imp2 (Stp.refl _ _ _) fun os e1 hos k1 vs H1 Hs1 fp1 ro s1 => ?_⟩
  have k1 := k1.imp s1 fun _ _ z => z
  cases hag : ag0 e1 os with
  | none => rw [hag] at k1; exact k1.elim
  | some ds =>
    rw [hag] at k1
    have hlen : os.length = n := hl _ _ _ hos
    cases hG : G ds with
    | none =>
      dsimp only at k1
      rw [hG] at k1
      exact k1.elim
    | some rr =>
      dsimp only at k1
      rw [hG] at k1
      -- the call with what is lent, the frame e2
      have main : ∀ (e2 : En) (Hs2 : Hp) (fp2 : List Addr), Rel K p e2 σ H1 Hs2 fp2 → Paired (RO1 K σ H1 Hs2) os vs → ag0 e2 os = some ds → Stp H1 Hs1 fp1 H1 Hs2 fp2 →
          (match rr with
            | .ret d k _ => (reg d k = true ∨ anyOwn e2 os = false) ∧ ∀ v H' Hs' fp', RO K p e2 σ H' Hs' fp' (.val d k) v → Stp H Hs fp H' Hs' fp' → Q v H'
            | .exc C x _ => reg x 0 = true ∧ XO K p W H1 Hs1 fp1 C x e2) → spOf K (List.replicate n 0) G vs H1 Q (fun cls d H => W cls d σ H) := by
        intro e2 Hs2 fp2 r2 po hag2 s2 hk
        obtain ⟨fB, q1, q2, q3⟩ := ag0_ok r2 po hag2
        have hB : ∀ a ∈ fB, Hs2 a = none := fun a ha => (r2.disj a (q1 a ha)).1
        have hRp := q3 (put H1 Hs2 fB) (ex_put hB) fun a ha => put_in ha
        rw [hlen] at hRp
        refine ⟨ds, put H1 Hs2 fB, [], put_ex r2.ex, List.nodup_nil, hRp, ?_⟩
        rw [hG]
        have tupB : ∀ {H' Hs' : Hp} {f : List Addr}, Stp H1 (put H1 Hs2 fB) [] H' Hs' f → ∀ a ∈ fB, ∃ o, Hs' a = some o ∧ ∀ xs, o ≠ .tup xs := fun {H' Hs' f} st a ha => by
          obtain ⟨o, h1, h2⟩ := (r2.sl.own a (q1 a ha)).2
          exact ⟨o, st.ex a o (by rw [put_in ha]; exact h1), h2⟩
        cases rr with
        | ret d k io =>
          intro v H' Hs' f g ex hio hrp nd st
          have := rpM_rep hio
          subst this
          have hg : ∀ a ∈ [] ++ g, Hs' a = none := fun a ha => (hrp.own a ha).1
          obtain ⟨r3, s3, dis⟩ := call_back (fI := []) r2 q1 (fun a ha => nomatch ha) (fun a _ z => nomatch z) st ex hg
          have hrp3 : Rp K H' (cutH Hs' fB) d k v g := by
            rcases hk.1 with hreg | hown
            · refine Rp.loose (tups_cut (tupB st)) hrp hreg fun a ha => ?_
              by_cases n : a ∈ fB
              · exact cut_in n
              · rw [cut_out n]; exact hg a ha
            · have := q2 hown
              subst this
              have e0 : cutH Hs' [] = Hs' := by funext b; exact cut_out (by simp)
              rw [e0]; exact hrp
          have s4 : Stp H Hs fp H' (cutH Hs' fB) (fp2 ++ g) := (s1.trans s2).trans (s3.weak (fun b hb => by simpa using hb) fun b hb => .inl (by simpa using hb))
          exact hk.2 v H' (cutH Hs' fB) (fp2 ++ g) (ro_new r3 hrp3 (by simpa using nd) fun a ha => dis a ha) s4
        | exc C x io =>
          intro dx v H' Hs' f ex hio nd hx hd hn0 hs hf st
          have := rpM_rep hio
          subst this
          obtain ⟨r3, s3, dis⟩ := call_back (fI := []) r2 q1 (fun a ha => nomatch ha) (fun a _ z => nomatch z) st ex (fun a ha => nomatch ha)
          have hx3 : Rp K H' (cutH Hs' fB) x 0 v [] := Rp.loose (tups_cut (tupB st)) hx hk.1 fun a ha => nomatch ha
          have nfp : dx ∉ fp2 := fun z => by obtain ⟨_, o, ho⟩ := r2.disj dx z; rw [hn0] at ho; cases ho
          refine hk.2 σ dx v H' (cutH Hs' fB) fp2 r3 hx3 hd hn0 ?_ nfp (s2.trans (s3.weak (fun b hb => by simpa using hb) fun b hb => .inl (by simpa using hb)))
          by_cases n : dx ∈ fB
          · exact cut_in n
          · rw [cut_out n]; exact hs
      cases rr with
      | ret d k io =>
        dsimp only at k1
        cases hce : callEn e1 os ds (reg d k) with
        | none => rw [hce] at k1; exact k1.elim
        | some e2 =>
          rw [hce] at k1
          unfold callEn at hce
          split at hce
          · rename_i hkeep
            cases hce
            refine main e1 Hs1 fp1 ro.1 ro.2 hag (Stp.refl _ _ _) ⟨?_, k1⟩
            rw [Bool.or_eq_true] at hkeep
            rcases hkeep with z | z
            · exact .inl z
            · exact .inr (by simpa using z)
          · split at hce
            · rename_i hz
              cases hce
              obtain ⟨Hs2, fp2, r2, s2⟩ := frzAll_ok (os := os) ro.1
              exact main _ Hs2 fp2 r2 (paired_keep ro.2 s2.ex) hz.1 s2 ⟨.inr hz.2, k1⟩
            · cases hce
      | exc C x io =>
        dsimp only at k1
        split at k1
        · rename_i hreg
          exact main e1 Hs1 fp1 ro.1 ro.2 hag (Stp.refl _ _ _) ⟨hreg, k1⟩
        · exact k1.elim
end
end Rf
/-! Rf, part F: calls that hand a thing over; the syntax of calls, loops, comprehensions. -/
namespace Rf
open PySem PySem.Spec PyProof.Rows L2
open Evl (Ex)
/-- the data of the operands, the i-th one being what is handed over, d -/
def agI (e : En) (d : D) : Nat → List Op → Option (List D)
  | 0, _ :: os => (ag0 e os).map (d :: ·)
  | i + 1, o :: os => (pk e o).bind fun x => (agI e d i os).map (x.1 :: ·)
  | _, [] => none
def ksI (k : Nat) : Nat → Nat → List Nat
  | 0, n + 1 => k :: List.replicate n 0
  | i + 1, n + 1 => 0 :: ksI k i n
  | _, 0 => []
def others : Nat → List Op → List Op
  | 0, _ :: os => os
  | i + 1, o :: os => o :: others i os
  | _, [] => []
def callEnI (e : En) (os : List Op) (i : Nat) (dI : D) (ds : List D) (keep : Bool) : Option En := if (keep || !anyOwn e (others i os)) = true then some e
  else if agI (frzAll e (others i os)) dI i os = some ds ∧ anyOwn (frzAll e (others i os)) (others i os) = false then some (frzAll e (others i os)) else none
/-- a call that hands the i-th argument over (a slot, owned k deep) -/
def mCall1 (i k : Nat) (G : List D → Option Ro) (ms : M (List Op)) : M Op := ms.bind fun os e => match os[i]? with
  | some (.sl j) => match e[j]? with
    | some (some (dI, k')) => if k' = k ∧ 0 < k then match agI (e.set j none) dI i os with
        | none => none
        | some ds => match G ds with
          | none => none
          | some (.ret d kd io) => match io[i]? with
            | none => none
            | some dI' => (callEnI (e.set j none) os i dI ds (reg d kd && reg dI' k)).map fun e' => .ok (.val d kd) (e'.set j (some (dI', k)))
          | some (.exc C x io) => match io[i]? with
            | none => none
            | some dI' => if (reg x 0 && reg dI' k) = true then some (.exc C x ((e.set j none).set j (some (dI', k)))) else none
      else none
    | _ => none
  | _ => none
section
variable {K : PySem.W.Frag} {p : Pins} {W : WX} {e e' : En} {σ : L2.St} {H H1 H' Hs Hs1 Hs' : Hp} {fp fp1 fp' : List Addr}
theorem agI_ok {dI : D} {k : Nat} {vI : V} {fI : List Addr} : ∀ {i : Nat} {os : List Op} {vs : List V} {ds : List D}, Rel K p e σ H Hs fp → Paired (RO1 K σ H Hs) os vs → vs[i]? = some vI → agI e dI i os = some ds → ∃ fB : List Addr, (∀ a ∈ fB, a ∈ fp) ∧ (anyOwn e (others i os) = false → fB = []) ∧
    ∀ Hs2, Ex Hs Hs2 → (∀ a ∈ fB, Hs2 a = H a) → Rp K H Hs2 dI k vI fI → RpM K H Hs2 ds (ksI k i os.length) vs fI
  | 0, [], _, _, _, _, _, hp => by cases hp
  | i + 1, [], _, _, _, _, _, hp => by cases hp
  | 0, o :: os, vs, ds, r, h, hv, hp => by
    cases h with
    | cons h1 h2 =>
      obtain ⟨ds', hd, rfl⟩ := Option.map_eq_some_iff.mp (show (ag0 e os).map (dI :: ·) = some ds from hp)
      obtain ⟨fB, q1, q2, q3⟩ := ag0_ok r h2 hd
      simp at hv
      subst hv
      exact ⟨fB, q1, q2, fun Hs2 ex q hI => ⟨_, _, fI, [], rfl, by simp, hI, q3 Hs2 ex q⟩⟩
  | i + 1, o :: os, vs, ds, r, h, hv, hp => by
    cases h with
    | cons h1 h2 =>
      obtain ⟨x, hx, hp⟩ := Option.bind_eq_some_iff.mp (show ((pk e o).bind fun x => (agI e dI i os).map (x.1 :: ·)) = some ds from hp)
      obtain ⟨ds', hd, rfl⟩ := Option.map_eq_some_iff.mp hp
      obtain ⟨f, hr, hf⟩ := pk_rp r h1 hx
      obtain ⟨fB, q1, q2, q3⟩ := agI_ok (i := i) r h2 (by simpa using hv) hd
      refine ⟨f ++ fB, fun a ha => (List.mem_append.mp ha).elim (hf a) (q1 a), fun hn => ?_, fun Hs2 ex q hI => ?_⟩
      · unfold others anyOwn at hn
        rw [Bool.or_eq_false_iff] at hn
        rw [q2 hn.2, List.append_nil]
        obtain ⟨d, k⟩ := x
        have h3 := hn.1
        rw [hx] at h3
        cases k with
        | zero => exact hr.fp0
        | succ k => cases h3
      · exact ⟨_, _, [], fI, rfl, rfl, hr.freeze ex fun a ha => q a (List.mem_append_left _ ha), q3 Hs2 ex (fun a ha => q a (List.mem_append_right _ ha)) hI⟩
theorem rpM_I {k : Nat} {vI : V} : ∀ {i n : Nat} {ds : List D} {vs : List V} {f : List Addr} {dI : D}, RpM K H Hs ds (ksI k i n) vs f → ds[i]? = some dI → vs[i]? = some vI → Rp K H Hs dI k vI f
  | 0, 0, ds, vs, f, dI, h, hd, _ => by
    cases ds with
    | nil => cases hd
    | cons _ _ => exact h.elim
  | i + 1, 0, ds, vs, f, dI, h, hd, _ => by
    cases ds with
    | nil => cases hd
    | cons _ _ => exact h.elim
  | 0, n + 1, ds, vs, f, dI, h, hd, hv => by
    cases ds with
    | nil => cases hd
    | cons d ds =>
      obtain ⟨v, r, f1, g, rfl, rfl, h1, h2⟩ := h
      have := rpM_rep h2
      subst this
      simp at hd hv
      subst hd hv
      rw [List.append_nil]
      exact h1
  | i + 1, n + 1, ds, vs, f, dI, h, hd, hv => by
    cases ds with
    | nil => cases hd
    | cons d ds =>
      obtain ⟨v, r, f1, g, rfl, rfl, h1, h2⟩ := h
      have := h1.fp0
      subst this
      exact rpM_I h2 (by simpa using hd) (by simpa using hv)
theorem paired_get : ∀ {os : List Op} {vs : List V} {i : Nat} {o : Op}, Paired (RO1 K σ H Hs) os vs → os[i]? = some o → ∃ v, vs[i]? = some v ∧ RO1 K σ H Hs o v
  | [], _, _, _, _, h => by simp at h
  | o :: os, _, 0, _, .cons h1 h2, h => by
    simp at h
    subst h
    exact ⟨_, rfl, h1⟩
  | o :: os, _, i + 1, _, .cons h1 h2, h => by
    obtain ⟨v, q1, q2⟩ := paired_get (i := i) h2 (by simpa using h)
    exact ⟨v, by simpa using q1, q2⟩
/-- a slot's own thing is taken out -/
theorem Rel.out {j : Nat} {d : D} {k : Nat} (r : Rel K p e σ H Hs fp) (h : e[j]? = some (some (d, k))) : ∃ v fR f, σ[j]? = some (some v) ∧ Rel K p (e.set j none) σ H Hs fR ∧ Rp K H Hs d k v f ∧ (∀ a, a ∈ fp ↔ a ∈ fR ∨ a ∈ f) ∧ (∀ a ∈ fR, a ∉ f) ∧ f.Nodup := by
  have hi : j < e.length := (List.getElem?_eq_some_iff.mp h).1
  obtain ⟨x, s, f1, f2, f3, e1, e2, rfl, e4, put'⟩ := r.sl.lens j hi
  rw [h] at e1
  cases e1
  obtain ⟨v, rfl, hr⟩ := e4
  have n1 := List.nodup_append.mp r.nd
  have n2 := List.nodup_append.mp n1.2.1
  have sl := put' H Hs none (some v) [] (Ex.refl _) (fun a ha => ⟨rfl, (r.disj a (by rcases ha with ha | ha <;> simp [ha])).1⟩) rfl
  rw [set_self e2] at sl
  refine ⟨v, f1 ++ ([] ++ f3), f2, e2, ⟨r.ex, sl, List.nodup_append.mpr ⟨n1.1, n2.2.1, fun a ha b hb => n1.2.2 a ha b (List.mem_append_right _ hb)⟩, r.pn⟩, hr, fun a => ?_, fun a ha hb => ?_, n2.1⟩
  · simp
    constructor
    · rintro (h | h | h) <;> simp [h]
    · rintro ((h | h) | h) <;> simp [h]
  · simp at ha
    rcases ha with ha | ha
    · exact n1.2.2 a ha a (List.mem_append_left _ hb) rfl
    · exact n2.2.2 a hb a ha rfl
/-- a thing is put into an empty slot whose value it is -/
theorem Rel.into {j : Nat} {d : D} {k : Nat} {v : V} {f : List Addr} (r : Rel K p e σ H Hs fp) (hj : j < e.length) (hv : σ[j]? = some (some v)) (h : Rp K H Hs d k v f) (nd : f.Nodup) (dis : ∀ a ∈ f, a ∉ fp) : ∃ fp', Rel K p (e.set j (some (d, k))) σ H Hs fp' ∧ ∀ a ∈ fp', a ∈ fp ∨ a ∈ f := by
  obtain ⟨x, s, f1, f2, f3, e1, e2, rfl, e4, put'⟩ := r.sl.lens j hj
  rw [hv] at e2
  cases e2
  have sl := put' H Hs (some (d, k)) (some v) f (Ex.refl _) (fun a ha => ⟨rfl, (r.disj a (by rcases ha with ha | ha <;> simp [ha])).1⟩) ⟨v, rfl, h⟩
  rw [set_self hv] at sl
  have n1 := List.nodup_append.mp r.nd
  have n2 := List.nodup_append.mp n1.2.1
  refine ⟨_, ⟨r.ex, sl, List.nodup_append.mpr ⟨n1.1, List.nodup_append.mpr ⟨nd, n2.2.1, fun a ha b hb e => dis a ha (by simp [e, hb])⟩, fun a ha b hb e => ?_⟩, r.pn⟩, fun a ha => by simp at ha ⊢; rcases ha with z | z | z <;> simp [z]⟩
  rcases List.mem_append.mp hb with hb | hb
  · exact dis b hb (by simp [← e, ha])
  · exact n1.2.2 a ha b (List.mem_append_right _ hb) e
theorem call1_core {i k : Nat} {G : List D → Option Ro} {ms : M (List Op)} {n : Nat} {Q : VK} (hl : ∀ e os e', ms e = some (.ok os e') → os.length = n)
    (q : kM K p W H Hs fp (mCall1 i k G ms e) fun o e' => ∀ v H' Hs' fp', RO K p e' σ H' Hs' fp' o v → Stp H Hs fp H' Hs' fp' → Q v H') :
    kM K p W H Hs fp (ms e) fun os e' => ∀ vs H' Hs' fp', ROs K p e' σ H' Hs' fp' os vs → Stp H Hs fp H' Hs' fp' → spOf K (ksI k i n) G vs H' Q (fun cls d H => W cls d σ H) := by
  refine (show kM K p W H Hs fp (ms.bind _ e) _ from q).bind.imp2 (Stp.refl _ _ _) fun os e1 hos k1 vs H1 Hs1 fp1 ro s1 => ?_
  have k1 := k1.imp s1 fun _ _ z => z
  have hlen : os.length = n := hl _ _ _ hos
  split at k1
  rotate_left
  · exact k1.elim
  rename_i j hoi
  split at k1
  rotate_left
  · exact k1.elim
  rename_i dI k' hej
  split at k1
  rotate_left
  · exact k1.elim
  rename_i hkk
  obtain ⟨rfl, hkpos⟩ := hkk
  split at k1
  · exact k1.elim
  rename_i ds hag
  have hje : j < e1.length := (List.getElem?_eq_some_iff.mp hej).1
  obtain ⟨vI, hvI, hoI⟩ := paired_get ro.2 hoi
  obtain ⟨vI', fR, fI, hσ, rR, hI, hfp, hdis, ndI⟩ := ro.1.out hej
  rw [show σ[j]? = some (some vI) from hoI] at hσ
  cases hσ
  have sR : Stp H1 Hs1 fp1 H1 Hs1 (fR ++ fI) := (Stp.refl _ _ _).less fun a ha => (hfp a).mpr (by simpa using ha)
  split at k1
  · exact k1.elim
  -- the call, the frame without what is handed over being e2
  all_goals
    rename_i hG
    have main : ∀ (e2 : En) (Hs2 : Hp) (fp2 : List Addr), Rel K p e2 σ H1 Hs2 fp2 → Ex Hs1 Hs2 → (∀ a ∈ fp2, a ∈ fR) → (∀ a ∈ fI, Hs2 a = none) → agI e2 dI i os = some ds → Stp H1 Hs1 (fR ++ fI) H1 Hs2 (fp2 ++ fI) → j < e2.length →
        (match G ds with
          | none => False
          | some (.ret d kd io) => ∃ dI', io[i]? = some dI' ∧ ((reg d kd && reg dI' k') = true ∨ anyOwn e2 (others i os) = false) ∧ ∀ v H' Hs' fp', RO K p (e2.set j (some (dI', k'))) σ H' Hs' fp' (.val d kd) v → Stp H Hs fp H' Hs' fp' → Q v H'
          | some (.exc C x io) => ∃ dI', io[i]? = some dI' ∧ (reg x 0 && reg dI' k') = true ∧ XO K p W H1 Hs1 fp1 C x (e2.set j (some (dI', k')))) → spOf K (ksI k' i n) G vs H1 Q (fun cls d H => W cls d σ H) := by
      intro e2 Hs2 fp2 r2 ex12 hfR hIn hag2 s2 hj2 hk
      obtain ⟨fB, q1, q2, q3⟩ := agI_ok (k := k') (vI := vI) (fI := fI) r2 (paired_keep ro.2 ex12) hvI hag2
      have hB : ∀ a ∈ fB, Hs2 a = none := fun a ha => (r2.disj a (q1 a ha)).1
      have dis2 : ∀ a ∈ fp2, a ∉ fI := fun a ha => hdis a (hfR a ha)
      have hI2 : Rp K H1 (put H1 Hs2 fB) dI k' vI fI := hI.frame (ex12.trans (ex_put hB)) fun a ha => ⟨rfl, by rw [put_out (fun z => dis2 a (q1 a z) ha)]; exact hIn a ha⟩
      have hRp := q3 (put H1 Hs2 fB) (ex_put hB) (fun a ha => put_in ha) hI2
      rw [hlen] at hRp
      have hIt : ∀ a ∈ fI, Hs2 a = none ∧ ∃ o, H1 a = some o := fun a ha => ⟨hIn a ha, let ⟨o, h, _⟩ := (hI.own a ha).2.1; ⟨o, h⟩⟩
      refine ⟨ds, put H1 Hs2 fB, fI, put_ex r2.ex, ndI, hRp, ?_⟩
      have tupB : ∀ {H' Hs' : Hp} {f : List Addr}, Stp H1 (put H1 Hs2 fB) fI H' Hs' f → ∀ a ∈ fB, ∃ o, Hs' a = some o ∧ ∀ xs, o ≠ .tup xs := fun {H' Hs' f} st a ha => by
        obtain ⟨o, h1, h2⟩ := (r2.sl.own a (q1 a ha)).2
        exact ⟨o, st.ex a o (by rw [put_in ha]; exact h1), h2⟩
      have noC : ∀ {Hs' : Hp} {g : List Addr}, (∀ a ∈ g, Hs' a = none) → ∀ a ∈ g, cutH Hs' fB a = none := fun {Hs' g} h a ha => by
        by_cases n : a ∈ fB
        · exact cut_in n
        · rw [cut_out n]; exact h a ha
      cases hGd : G ds with
      | none => rw [hGd] at hk; exact hk.elim
      | some rr =>
        rw [hGd] at hk
        cases rr with
        | ret d kd io =>
          obtain ⟨dI', hio', hreg, hQ⟩ := hk
          intro v H' Hs' f g ex hio hrp nd st
          have hIo := rpM_I hio hio' hvI
          have hg : ∀ a ∈ f ++ g, Hs' a = none := fun a ha => (List.mem_append.mp ha).elim (fun z => (hIo.own a z).1) fun z => (hrp.own a z).1
          obtain ⟨r3, s3, dis⟩ := call_back r2 q1 hIt dis2 st ex hg
          have both : Rp K H' (cutH Hs' fB) d kd v g ∧ Rp K H' (cutH Hs' fB) dI' k' vI f := by
            rcases hreg with z | z
            · rw [Bool.and_eq_true] at z
              exact ⟨Rp.loose (tups_cut (tupB st)) hrp z.1 (noC fun a ha => (hrp.own a ha).1), Rp.loose (tups_cut (tupB st)) hIo z.2 (noC fun a ha => (hIo.own a ha).1)⟩
            · have := q2 z
              subst this
              have e0 : cutH Hs' [] = Hs' := by funext b; exact cut_out (by simp)
              rw [e0]
              exact ⟨hrp, hIo⟩
          have ndd := List.nodup_append.mp nd
          obtain ⟨fp4, r4, h4⟩ := r3.into hj2 hoI both.2 ndd.1 fun a ha => dis a (List.mem_append_left _ ha)
          refine hQ v H' (cutH Hs' fB) (fp4 ++ g) (ro_new r4 both.1 ndd.2.1 fun a ha hb => ?_) (s1.trans (sR.trans (s2.trans (s3.less fun a ha => ?_))))
          · rcases h4 a hb with z | z
            · exact dis a (List.mem_append_right _ ha) z
            · exact ndd.2.2 a z a ha rfl
          · rcases List.mem_append.mp ha with z | z
            · rcases h4 a z with z | z <;> simp [z]
            · simp [z]
        | exc C x io =>
          obtain ⟨dI', hio', hreg, hQ⟩ := hk
          intro dx v H' Hs' f ex hio nd hx hd hn0 hs hf st
          have hIo := rpM_I hio hio' hvI
          obtain ⟨r3, s3, dis⟩ := call_back r2 q1 hIt dis2 st ex fun a ha => (hIo.own a ha).1
          rw [Bool.and_eq_true] at hreg
          have hx3 : Rp K H' (cutH Hs' fB) x 0 v [] := Rp.loose (tups_cut (tupB st)) hx hreg.1 fun a ha => nomatch ha
          have hI3 : Rp K H' (cutH Hs' fB) dI' k' vI f := Rp.loose (tups_cut (tupB st)) hIo hreg.2 (noC fun a ha => (hIo.own a ha).1)
          obtain ⟨fp4, r4, h4⟩ := r3.into hj2 hoI hI3 nd dis
          have nfp : dx ∉ fp4 := fun z => by
            rcases h4 dx z with z | z
            · obtain ⟨_, o, ho⟩ := r2.disj dx z
              rw [hn0] at ho; cases ho
            · exact hf z
          exact hQ σ dx v H' (cutH Hs' fB) fp4 r4 hx3 hd hn0 (noC (g := [dx]) (fun a ha => by simp at ha; rw [ha]; exact hs) dx (by simp)) nfp (sR.trans (s2.trans (s3.less fun a ha => by rcases h4 a ha with z | z <;> simp [z])))
  · rename_i d kd io
    split at k1
    · exact k1.elim
    rename_i dI' hio'
    cases hce : callEnI (e1.set j none) os i dI ds (reg d kd && reg dI' k') with
    | none => rw [hce] at k1; exact k1.elim
    | some e2 =>
      rw [hce] at k1
      unfold callEnI at hce
      split at hce
      · rename_i hkeep
        cases hce
        refine main _ Hs1 fR rR (Ex.refl _) (fun _ z => z) (fun a ha => (hI.own a ha).1) hag (Stp.refl _ _ _) (by simpa using hje) ?_
        rw [hG]
        refine ⟨dI', hio', ?_, k1⟩
        rw [Bool.or_eq_true] at hkeep
        rcases hkeep with z | z
        · exact .inl z
        · exact .inr (by simpa using z)
      · split at hce
        · rename_i hz
          cases hce
          obtain ⟨Hs2, fp2, r2, s2⟩ := frzAll_ok (os := others i os) rR
          have sub : ∀ a ∈ fp2, a ∈ fR := fun a ha => by
            rcases s2.fr a ha with z | z
            · exact z
            · obtain ⟨_, o, ho⟩ := r2.disj a ha
              rw [z] at ho; cases ho
          have nI : ∀ a ∈ fI, Hs2 a = none := fun a ha => by
            cases z : Hs2 a with
            | none => rfl
            | some u =>
              rcases s2.nw a (by rw [z]; simp) with m | m | m
              · exact absurd (hI.own a ha).1 m
              · exact absurd ha (hdis a m)
              · obtain ⟨o, ho, _⟩ := (hI.own a ha).2.1
                rw [m] at ho; cases ho
          refine main _ Hs2 fp2 r2 s2.ex sub nI hz.1 (s2.weak (fun b hb => List.mem_append_left _ hb) fun b hb => by
            rcases List.mem_append.mp hb with z | z
            · exact .inl z
            · exact .inr (List.mem_append_right _ z)) ?_ ?_
          · have := r2.sl.len
            have h2 := rR.sl.len
            simp at h2
            omega
          · rw [hG]
            exact ⟨dI', hio', .inr hz.2, k1⟩
        · cases hce
  · rename_i C x io
    split at k1
    · exact k1.elim
    rename_i dI' hio'
    split at k1
    · rename_i hreg
      refine main _ Hs1 fR rR (Ex.refl _) (fun _ z => z) (fun a ha => (hI.own a ha).1) hag (Stp.refl _ _ _) (by simpa using hje) ?_
      rw [hG]
      exact ⟨dI', hio', hreg, k1⟩
    · exact k1.elim
theorem t_call1 {i k : Nat} {G : List D → Option Ro} {ms : M (List Op)} {n : Nat} {Q : VK} (hl : ∀ e os e', ms e = some (.ok os e') → os.length = n) (q : tM K p W (mCall1 i k G ms) σ H Q) : tMA K p W ms σ H fun vs H1 => spOf K (ksI k i n) G vs H1 Q (fun cls d H => W cls d σ H) := by
  obtain ⟨e, Hs, fp, r, q⟩ := q
  exact ⟨e, Hs, fp, r, call1_core hl q⟩
end
/-! ### the syntax -/
section
variable {X : Cx} {p : Pins} {W : WX}
theorem passes0 {σ : L2.St} : PassesAt CX0 X σ (WE W σ) := fun _ _ _ _ _ _ h => h.elim
theorem passesX (tk : Takes X W) (σ : L2.St) : PassesAt (L2.CX X.prog X.w) X σ (WE W σ) := passAt tk σ
theorem takesF : Takes X W0 := takes0
/-- f(e, ..), no defaults: all arguments are lent -/
theorem re_call {CX : CXT} {k : Nat} {f : Addr} {fd : FuncData} {ps : List Str} {x : Str} {y : Expr} {ys : List Expr} {pp pos : Pos} {G : List D → Option Ro} {ks : List Nat} {ms : M (List Op)} (F : FnOk X.prog X.w X.K X.mg X.base CX k f fd ps (spOf X.K ks G)) (hr : Room k X.A) (hg : Gl X x) (hm : X.mg x = some (.ref f)) (hk : PySem.W.keepIn X.K (.ref f) = true) (hb : Binds X.K fd ps [])
    (hx : ∀ σ, PassesAt CX X σ (WE W σ)) (ha : RA X p W (y :: ys) ms) (hks : ks = List.replicate (y :: ys).length 0 := by rfl) (hdb : (x == ("__debug__" : Str)) = false := by decide) (he : starEach (y :: ys) X.env = (false, eval y X.env) :: starEach ys X.env := by rfl) (hpl : (backTo pos (starEach ys X.env)).any (·.1) = false := by rfl) :
    RE X p W (.Call (.Name x pp) (y :: ys) [] pos) (mCall G ms) := ⟨PE_imp (pe_callSD (E := WE W) F hr hg hm hk hb .nil hx ha.pa hdb he hpl) fun σ H Q q => by
  subst hks
  obtain ⟨e, Hs, fp, r, q⟩ := t_call ha.len q
  exact ⟨e, Hs, fp, r, q.imp (Stp.refl _ _ _) fun os e' k vs H' Hs' fp' ro s => by show spOf _ _ _ (vs ++ []) _ _ _; rw [List.append_nil]; exact k vs H' Hs' fp' ro s⟩⟩
/-- f(e, ..): the i-th argument is handed over -/
theorem re_call1 {CX : CXT} (i kI : Nat) {k : Nat} {f : Addr} {fd : FuncData} {ps : List Str} {x : Str} {y : Expr} {ys : List Expr} {pp pos : Pos} {G : List D → Option Ro} {ks : List Nat} {ms : M (List Op)} (F : FnOk X.prog X.w X.K X.mg X.base CX k f fd ps (spOf X.K ks G)) (hr : Room k X.A) (hg : Gl X x) (hm : X.mg x = some (.ref f)) (hk : PySem.W.keepIn X.K (.ref f) = true) (hb : Binds X.K fd ps [])
    (hx : ∀ σ, PassesAt CX X σ (WE W σ)) (ha : RA X p W (y :: ys) ms) (hks : ks = ksI kI i (y :: ys).length := by rfl) (hdb : (x == ("__debug__" : Str)) = false := by decide) (he : starEach (y :: ys) X.env = (false, eval y X.env) :: starEach ys X.env := by rfl) (hpl : (backTo pos (starEach ys X.env)).any (·.1) = false := by rfl) :
    RE X p W (.Call (.Name x pp) (y :: ys) [] pos) (mCall1 i kI G ms) := ⟨PE_imp (pe_callSD (E := WE W) F hr hg hm hk hb .nil hx ha.pa hdb he hpl) fun σ H Q q => by
  subst hks
  obtain ⟨e, Hs, fp, r, q⟩ := t_call1 ha.len q
  exact ⟨e, Hs, fp, r, q.imp (Stp.refl _ _ _) fun os e' k vs H' Hs' fp' ro s => by show spOf _ _ _ (vs ++ []) _ _ _; rw [List.append_nil]; exact k vs H' Hs' fp' ro s⟩⟩
/-! loops -/
theorem rs_for {tg it : Expr} {body : List Stmt} {sl : List Nat} {mi : M (List D)} {t : D → En → Option En} {mb : M Fl} {pos : Pos} (hp : PassesOwn (model X.prog X.w) X.A X.env X.xe) (hc : X.calm = true) (hi : RI X p W tg it mi) (hg : RG X p tg sl t) (hb : RSs X p W body mb) (hs : ∀ x, foldedSetIterable it X.env x = pure x := by intro _; rfl) : RS X p W (.For tg it body [] pos) (mFor mi t mb) :=
  ⟨PS_imp (ps_for hp hc hi.pi hg.pg hb.ps hs) fun σ H D q => t_for q⟩
theorem rs_while {c : Expr} {body : List Stmt} {mc : M Bool} {mb : M Fl} {pos : Pos} (n : Nat) (hp : PassesOwn (model X.prog X.w) X.A X.env X.xe) (hc : RT X p W c mc) (hb : RSs X p W body mb) : RS X p W (.While c body [] pos) (mWhile mc mb n) :=
  ⟨PS_imp (ps_while hp hc.pt hb.ps) fun σ H D q => t_while q⟩
theorem re_lc {elt tg it : Expr} {ifs : List Expr} {scope : Scope} {own : List (Str × Nat)} {pos : Pos} {sl : List Nat} {mi : M (List D)} {t : D → En → Option En} {tt : M Bool} {te : M Op} (ck : En → Nat) (hc : X.calm = true) (hN : X.N.Nodup) (hi : RI X p W tg it mi) (ok : BlkOk X.N X.env.scope scope own) (hp : ∀ q ∈ p, q.1 ∉ own.map (·.2))
    (hg : ∀ (s : Shared) (H : Hp) (C : Addr) (cl : List (Str × Addr)) (fp : List Addr), RG (X.blk s H scope (compEnvC scope cl C X.env) fp) p tg sl t) (ht : ∀ (s : Shared) (H : Hp) (C : Addr) (cl : List (Str × Addr)) (fp : List Addr), PTs (X.blk s H scope (compEnvC scope cl C X.env) fp) ifs (tMT X.K p W0 tt))
    (he : ∀ (s : Shared) (H : Hp) (C : Addr) (cl : List (Str × Addr)) (fp : List Addr), RE (X.blk s H scope (compEnvC scope cl C X.env) fp) p W0 elt te) (hsl : ∀ i ∈ sl, i ∈ own.map (·.2) := by decide) (hs : ∀ x, foldedSetIterable it X.env x = pure x := by intro _; rfl) :
    RE X p W (.ListComp elt [⟨tg, it, ifs, 0⟩] scope pos) (mLc (own.map (·.2)) ck mi t tt te) :=
  ⟨PE_imp (pe_lc hc hN hi.pi ok (fun s H C cl fp => (hg s H C cl fp).pg) ht (fun s H C cl fp => (he s H C cl fp).pe) hs) fun σ H Q q => t_lc hsl hp q⟩
theorem rs_lc {i : Nat} {y : Str} {py : Pos} {elt tg it : Expr} {ifs : List Expr} {scope : Scope} {own : List (Str × Nat)} {pos spos : Pos} {sl : List Nat} {mi : M (List D)} {t : D → En → Option En} {tt : M Bool} {te : M Op} (ck : En → Nat) (hc : X.calm = true) (hN : X.N.Nodup) (hy : X.N[i]? = some y) (hyl : X.env.scope.names.lookup y = some .local)
    (hsw : swapsWith (.ListComp elt [⟨tg, it, ifs, 0⟩] scope pos) (some (.Name y py)) spos.line X.env = pure true) (hi : RI X p W tg it mi) (ok : BlkOk X.N X.env.scope scope own) (hp : ∀ q ∈ p, q.1 ∉ own.map (·.2)) (hpi : ∀ q ∈ p, q.1 ≠ i)
    (hg : ∀ (s : Shared) (H : Hp) (C : Addr) (cl : List (Str × Addr)) (fp : List Addr), RG (X.blk s H scope (compEnvC scope cl C X.env) fp) p tg sl t) (ht : ∀ (s : Shared) (H : Hp) (C : Addr) (cl : List (Str × Addr)) (fp : List Addr), PTs (X.blk s H scope (compEnvC scope cl C X.env) fp) ifs (tMT X.K p W0 tt))
    (he : ∀ (s : Shared) (H : Hp) (C : Addr) (cl : List (Str × Addr)) (fp : List Addr), RE (X.blk s H scope (compEnvC scope cl C X.env) fp) p W0 elt te) (hsl : ∀ i ∈ sl, i ∈ own.map (·.2) := by decide) (hs : ∀ x, foldedSetIterable it X.env x = pure x := by intro _; rfl) :
    RS X p W (.Assign [.Name y py] (.ListComp elt [⟨tg, it, ifs, 0⟩] scope pos) spos) (mAsg i (mLc (own.map (·.2)) ck mi t tt te)) :=
  ⟨PS_imp (ps_setLc hc hN hy hyl hsw hi.pi ok (fun s H C cl fp => (hg s H C cl fp).pg) ht (fun s H C cl fp => (he s H C cl fp).pe) hs) fun σ H D q => by
    obtain ⟨e, Hs, fp, r, q⟩ := q
    have q1 : tM X.K p W (mLc (own.map (·.2)) ck mi t tt te) σ H (fun v H' => D.nx (σ.set i (some v)) H') := ⟨e, Hs, fp, r, (show kM X.K p W H Hs fp ((mLc (own.map (·.2)) ck mi t tt te).bind _ e) _ from q).bind.imp (Stp.refl _ _ _) fun o e' k v H' Hs' fp' ro s => t_asg hpi ro s k⟩
    exact t_lc hsl hp q1⟩
def mYes : M Bool := oK (some true)
theorem rts_nil : PTs X [] (tMT X.K p W mYes) := ⟨fun pins s σ H Q I h => pts_nil.run pins s σ H Q I (by
  obtain ⟨e, Hs, fp, r, q⟩ := h
  exact q H Hs fp r (Stp.refl _ _ _))⟩
theorem rts_one {c : Expr} {m : M Bool} (h : RT X p W c m) : PTs X [c] (tMT X.K p W m) := pts_one h.pt
/-! what is walked -/
/-- a list at hand: its items; a slot's own list is put still -/
def itL (o : Op) : M (List D) := fun e => match o with
  | .val (.lst ds) _ => some (.ok ds e)
  | .val (.kls ds) _ => some (.ok ds e)
  | .sl i => match e[i]? with
    | some (some (.lst ds, k)) => some (.ok ds (e.set i (some (.lst ds, 0))))
    | some (some (.kls ds, _)) => some (.ok ds e)
    | _ => none
  | _ => none
theorem wk_list {K : PySem.W.Frag} {a : Addr} {ds : List D} {vs : List V} {Hs : Hp} (h1 : SqL K Hs a vs) (h2 : ∀ H, RpL K H Hs ds 0 vs []) : Wk K (Itl K a) ds Hs where
  go := fun i d H2 Hs2 hd ex1 ex2 => by
    obtain ⟨v, hv, _⟩ := (h2 H2).get hd
    exact ⟨vs, v, Evl.ex_l (ex1.trans ex2) h1, hv⟩
  yld := fun i d H2 Hs2 x H3 hd ex1 ex2 hy => by
    obtain ⟨rfl, hx⟩ := hy
    obtain ⟨v, hv, hr⟩ := (h2 H3).get hd
    have := hx vs (Evl.ex_l (ex1.trans ex2) h1)
    rw [hv] at this
    cases this
    exact ⟨Hs2, ex2, hr.still ex1, Stp.refl _ _ _⟩
  stop := fun H2 Hs2 ex1 ex2 => ⟨vs, Evl.ex_l (ex1.trans ex2) h1, by rw [(h2 H2).len]; exact Nat.le_refl _⟩
theorem itL_ok {K : PySem.W.Frag} {e : En} {σ : L2.St} {H Hs : Hp} {fp : List Addr} {o : Op} {v : V} {k : List D → En → Prop} (h : RO K p e σ H Hs fp o v) (q : kM K p W H Hs fp (itL o e) k) :
    ∃ ds e' Hs' fp' a vs, v = .ref a ∧ Rel K p e' σ H Hs' fp' ∧ Stp H Hs fp H Hs' fp' ∧ SqL K Hs' a vs ∧ (∀ H, RpL K H Hs' ds 0 vs []) ∧ k ds e' := by
  cases o with
  | sl i =>
    unfold itL at q
    dsimp only at q
    split at q
    · rename_i ds kk hd
      obtain ⟨v', Hs', fp', e2, r, hr, st⟩ := h.1.freeze hd
      rw [h.2] at e2
      cases e2
      obtain ⟨a, vs, f, rfl, hl, hc⟩ := hr
      rcases hc with ⟨_, h1, rfl⟩ | ⟨hk, _⟩
      · exact ⟨ds, _, Hs', fp', a, vs, rfl, r, st, .inl (.inl h1), fun H => hl.still (Ex.refl _), q⟩
      · exact absurd hk (Nat.lt_irrefl _)
    · rename_i ds kk hd
      have hi := (List.getElem?_eq_some_iff.mp hd).1
      obtain ⟨x, s, f1, f2, f3, e1, e2, _, e4, _⟩ := h.1.sl.lens i hi
      rw [hd] at e1
      cases e1
      rw [h.2] at e2
      cases e2
      obtain ⟨u, hu, a, vs, rfl, hl, hsq, _⟩ := e4
      cases hu
      exact ⟨ds, e, Hs, fp, a, vs, rfl, h.1, Stp.refl _ _ _, hsq, fun H => hl.still (Ex.refl _), q⟩
    · exact q.elim
  | val d j =>
    obtain ⟨Hs', fp', r, h1, st⟩ := frzRO h
    cases d with
    | lst ds =>
      obtain ⟨_, a, vs, f, rfl, hl, hc⟩ := h1
      rcases hc with ⟨_, h1, rfl⟩ | ⟨hk, _⟩
      · exact ⟨ds, e, Hs', fp', a, vs, rfl, r, st, .inl (.inl h1), fun H => hl.still (Ex.refl _), q⟩
      · exact absurd hk (Nat.lt_irrefl _)
    | kls ds =>
      obtain ⟨_, a, vs, rfl, hl, hsq, _⟩ := h1
      exact ⟨ds, e, Hs', fp', a, vs, rfl, r, st, hsq, fun H => hl.still (Ex.refl _), q⟩
    | _ => exact q.elim
def iL (m : M Op) : M (List D) := m.bind itL
theorem ri_list {tg l : Expr} {m : M Op} (h : RE X p W l m) : RI X p W tg l (iL m) := ⟨⟨fun pins s σ H R I q => (pi_list (tg := tg) h.pe).run pins s σ H R I (by
  obtain ⟨e, Hs, fp, r, q⟩ := q
  refine ⟨e, Hs, fp, r, q.bind.imp (Stp.refl _ _ _) fun o e1 k v H' Hs' fp' ro s1 => ?_⟩
  obtain ⟨ds, e2, Hs2, fp2, a, vs, rfl, r2, s2, hsq, hl, k2⟩ := itL_ok ro (k.imp s1 fun _ _ z => z)
  exact ⟨a, rfl, ⟨vs, Evl.ex_l r2.ex hsq⟩, k2 _ H' Hs2 fp2 r2 (s1.trans s2) (wk_list hsq hl)⟩)⟩⟩
/-- range(n), range(a, b) -/
def rngD (a : Int) (n : Nat) : List D := (List.range n).map fun (i : Nat) => D.int (a + (i : Int))
def iR (ms : M (List Op)) : M (List D) := ms.bind fun os e => oK ((pkL false e os).bind fun ds => match ds with
  | [.int n] => if n < 2 ^ 62 ∧ -(2 ^ 62) ≤ n then some (rngD 0 n.toNat) else none
  | [.int a, .int b] => if (-(2 ^ 62) ≤ a ∧ a < 2 ^ 62) ∧ (-(2 ^ 62) ≤ b ∧ b < 2 ^ 62) then some (rngD a (b - a).toNat) else none
  | _ => none) e
theorem wk_range {K : PySem.W.Frag} {a : Int} {n : Nat} {Hs : Hp} : Wk K (Itr a n) (rngD a n) Hs where
  go := fun i d H2 Hs2 hd ex1 ex2 => by
    have := (List.getElem?_eq_some_iff.mp hd).1
    unfold rngD at this
    show i < n
    simpa using this
  yld := fun i d H2 Hs2 x H3 hd ex1 ex2 hy => by
    obtain ⟨rfl, rfl⟩ := hy
    unfold rngD at hd
    rw [List.getElem?_map] at hd
    obtain ⟨j, hj, rfl⟩ := Option.map_eq_some_iff.mp hd
    have : j = i := by
      rw [List.getElem?_eq_some_iff] at hj
      obtain ⟨_, hj⟩ := hj
      simpa using hj.symm
    subst this
    exact ⟨Hs2, ex2, ⟨rfl, rfl⟩, Stp.refl _ _ _⟩
  stop := fun H2 Hs2 ex1 ex2 => by
    show n ≤ _
    unfold rngD
    simp
theorem ri_range1 {tg a : Expr} {ms : M (List Op)} {pp pos : Pos} (hg : Gl X "range") (hm : X.mg "range" = none) (ha : RA X p W [a] ms) (hs : starEach [a] X.env = [(false, eval a X.env)] := by rfl) : RI X p W tg (.Call (.Name "range" pp) [a] [] pos) (iR ms) := ⟨⟨fun pins s σ H R I q => (pi_range1 (tg := tg) hg hm ha.pa hs).run pins s σ H R I (by
  obtain ⟨e, Hs, fp, r, q⟩ := q
  refine ⟨e, Hs, fp, r, q.bind.imp2 (Stp.refl _ _ _) fun os e1 hos k vs H' Hs' fp' ro s1 => ?_⟩
  have hlen := ha.len _ _ _ hos
  obtain ⟨l, hl, k⟩ := kM_oK k
  obtain ⟨ds, hd, hf⟩ := Option.bind_eq_some_iff.mp hl
  have hp := pkL_rp ro.1 ro.2 hd
  have hll := ro.2.length
  split at hf
  · rename_i n
    cases hp with
    | cons h1 h2 =>
      cases h2
      obtain ⟨_, _, _, h1, _⟩ := h1
      subst h1
      split at hf
      · rename_i hb
        cases hf
        exact ⟨n, rfl, hb.2, hb.1, k _ H' Hs' fp' ro.1 s1 wk_range⟩
      · cases hf
  · cases hp with
    | cons h1 h2 =>
      cases h2 with
      | cons h2 h3 =>
        cases h3
        simp at hll hlen
        omega
  · cases hf)⟩⟩
theorem ri_range2 {tg a b : Expr} {ms : M (List Op)} {pp pos : Pos} (hg : Gl X "range") (hm : X.mg "range" = none) (ha : RA X p W [a, b] ms) (hs : starEach [a, b] X.env = [(false, eval a X.env), (false, eval b X.env)] := by rfl) (hs2 : starEach [b] X.env = [(false, eval b X.env)] := by rfl) : RI X p W tg (.Call (.Name "range" pp) [a, b] [] pos) (iR ms) := ⟨⟨fun pins s σ H R I q => (pi_range2 (tg := tg) hg hm ha.pa hs hs2).run pins s σ H R I (by
  obtain ⟨e, Hs, fp, r, q⟩ := q
  refine ⟨e, Hs, fp, r, q.bind.imp2 (Stp.refl _ _ _) fun os e1 hos k vs H' Hs' fp' ro s1 => ?_⟩
  have hlen := ha.len _ _ _ hos
  obtain ⟨l, hl, k⟩ := kM_oK k
  obtain ⟨ds, hd, hf⟩ := Option.bind_eq_some_iff.mp hl
  have hp := pkL_rp ro.1 ro.2 hd
  have hll := ro.2.length
  split at hf
  · cases hp with
    | cons h1 h2 =>
      cases h2
      simp at hll hlen
      omega
  · rename_i i j
    cases hp with
    | cons h1 h2 =>
      cases h2 with
      | cons h2 h3 =>
        cases h3
        obtain ⟨_, _, _, h1, _⟩ := h1
        obtain ⟨_, _, _, h2, _⟩ := h2
        subst h1
        subst h2
        split at hf
        · rename_i hb
          cases hf
          exact ⟨i, j, rfl, ⟨hb.1.1, hb.1.2, hb.2.1, hb.2.2⟩, k _ H' Hs' fp' ro.1 s1 wk_range⟩
        · cases hf
  · cases hf)⟩⟩
end
end Rf
/-! Rf, part G: the operations on data. -/
namespace Rf
open PySem PySem.Spec PyProof.Rows L2
open Evl (Ex)
section
variable {K : PySem.W.Frag} {H Hs : Hp} {Q : VK}
theorem out_still {d : D} {v : V} (ex : Ex Hs H) (h : Rp K H Hs d 0 v []) (o : Out K H Hs (d, 0) Q) : Q v H := o v H Hs [] ex h List.nodup_nil (Stp.refl _ _ _)
theorem out_int {i : Int} (ex : Ex Hs H) (o : Out K H Hs (.int i, 0) Q) : Q (.int i) H := out_still (d := .int i) ex ⟨rfl, rfl⟩ o
theorem out_str {i : Str} (ex : Ex Hs H) (o : Out K H Hs (.str i, 0) Q) : Q (.str i) H := out_still (d := .str i) ex ⟨rfl, rfl⟩ o
theorem out_bl {i : Bool} (ex : Ex Hs H) (o : Out K H Hs (.bl i, 0) Q) : Q (.bl i) H := out_still (d := .bl i) ex ⟨rfl, rfl⟩ o
theorem out_non (ex : Ex Hs H) (o : Out K H Hs (.non, 0) Q) : Q .non H := out_still (d := .non) ex ⟨rfl, rfl⟩ o
theorem out_lst {ds : List D} {vs : List V} (ex : Ex Hs H) (h : ∀ H, RpL K H Hs ds 0 vs []) (o : Out K H Hs (.lst ds, 1) Q) : ∀ p, H p = none → Q (.ref p) (upd H p (.lst vs)) := fun p hp =>
  o (.ref p) _ Hs [p] (ex_updO ex (Evl.fresh_back ex hp)) ⟨p, vs, [], rfl, h _, .inr ⟨Nat.one_pos, upd_same, Evl.fresh_back ex hp, rfl⟩⟩ (by simp) (by simpa using Stp.newO (o := .lst vs) (fp := []) hp ex)
theorem out_tup {ds : List D} {vs : List V} (ex : Ex Hs H) (h : ∀ H, RpL K H Hs ds 0 vs []) (o : Out K H Hs (.tup ds, 0) Q) : ∀ p, H p = none → Q (.ref p) (upd H p (.tup vs)) := fun p hp =>
  o (.ref p) _ (upd Hs p (.tup vs)) [] (ex_upd2 ex) ⟨p, vs, rfl, (h H).still (Ex.new (Evl.fresh_back ex hp)), upd_same⟩ (by simp) (Stp.new hp ex)
theorem v1_int {lim : Bool} {i : Int} {v : V} (h : V1 K H Hs lim (.int i) v) : v = .int i := by obtain ⟨k, f, _, h, _⟩ := h; exact h
theorem v1_str {lim : Bool} {i : Str} {v : V} (h : V1 K H Hs lim (.str i) v) : v = .str i := by obtain ⟨k, f, _, h, _⟩ := h; exact h
theorem v1_bl {lim : Bool} {i : Bool} {v : V} (h : V1 K H Hs lim (.bl i) v) : v = .bl i := by obtain ⟨k, f, _, h, _⟩ := h; exact h
theorem v1_non {lim : Bool} {v : V} (h : V1 K H Hs lim .non v) : v = .non := by obtain ⟨k, f, _, h, _⟩ := h; exact h
theorem v1_lst {ds : List D} {v : V} (ex : Ex Hs H) (h : V1 K H Hs true (.lst ds) v) : ∃ a vs, v = .ref a ∧ H a = some (.lst vs) ∧ ∀ H, RpL K H Hs ds 0 vs [] := by
  obtain ⟨k, f, hk, h⟩ := h
  obtain ⟨a, vs, g, rfl, h1, h2⟩ := sq_of_rp h ex
  have : k - 1 = 0 := by have := hk rfl; omega
  rw [this] at h2
  have := h2.fp0
  subst this
  exact ⟨a, vs, rfl, h1, fun H => h2.still (Ex.refl _)⟩
theorem v0_lst {lim : Bool} {ds : List D} {v : V} (ex : Ex Hs H) (h : V1 K H Hs lim (.lst ds) v) : ∃ a vs, v = .ref a ∧ H a = some (.lst vs) ∧ RpL K H H ds 0 vs [] := by
  obtain ⟨k, f, _, h⟩ := h
  obtain ⟨a, vs, g, rfl, h1, h2⟩ := sq_of_rp h ex
  exact ⟨a, vs, rfl, h1, h2.view ex⟩
theorem v1_tup {ds : List D} {v : V} (ex : Ex Hs H) (h : V1 K H Hs true (.tup ds) v) : ∃ a vs, v = .ref a ∧ H a = some (.tup vs) ∧ ∀ H, RpL K H Hs ds 0 vs [] := by
  obtain ⟨k, f, hk, a, vs, rfl, h1, h2⟩ := h
  have : k - 1 = 0 := by have := hk rfl; omega
  rw [this] at h1
  have := h1.fp0
  subst this
  exact ⟨a, vs, rfl, ex _ _ h2, fun H => h1.still (Ex.refl _)⟩
theorem v0_tup {lim : Bool} {ds : List D} {v : V} (ex : Ex Hs H) (h : V1 K H Hs lim (.tup ds) v) : ∃ a vs, v = .ref a ∧ H a = some (.tup vs) ∧ RpL K H H ds 0 vs [] := by
  obtain ⟨k, f, _, a, vs, rfl, h1, h2⟩ := h
  exact ⟨a, vs, rfl, ex _ _ h2, h1.view ex⟩
theorem v1_kls {lim : Bool} {ds : List D} {v : V} (ex : Ex Hs H) (h : V1 K H Hs lim (.kls ds) v) : ∃ a vs, v = .ref a ∧ SqL K H a vs ∧ ∀ H, RpL K H Hs ds 0 vs [] := by
  obtain ⟨k, f, _, a, vs, rfl, h1, h2, _⟩ := h
  exact ⟨a, vs, rfl, Evl.ex_l ex h2, fun H => h1.still (Ex.refl _)⟩
end

/-! ### arithmetic -/
def dAdd : List D → Option (D × Nat)
  | [.int i, .int j] => some (.int (i + j), 0)
  | [.int i, .bl b] => some (.int (i + if b then 1 else 0), 0)
  | [.str x, .str y] => if x.length + y.length ≤ sizeLine then some (.str (x ++ y), 0) else none
  | [.lst xs, .lst ys] => if xs.length + ys.length ≤ sizeLine then some (.lst (xs ++ ys), 1) else none
  | _ => none
def rAddD : R2 := fun x y H Q => (∃ i j, x = .int i ∧ y = .int j ∧ Q (.int (i + j)) H) ∨ (∃ i k, x = .int i ∧ y = .bl k ∧ Q (.int (i + b2i k)) H) ∨ (∃ i j, x = .str i ∧ y = .str j ∧ i.length + j.length ≤ sizeLine ∧ Q (.str (i ++ j)) H) ∨ rCat x y H Q
theorem op_addD {X : Cx} : OpR X (binaryOp .Add) rAddD := op_add.or (op_add_ib.or (op_add_str.or op_cat))
theorem s_add {K : PySem.W.Frag} : Op2S K rAddD true dAdd := fun x y H Hs a b z Q ex hx hy hf o => by
  unfold dAdd at hf
  split at hf
  · rename_i i j heq; cases heq; cases hf
    exact .inl ⟨i, j, v1_int hx, v1_int hy, out_int ex o⟩
  · rename_i i j heq; cases heq; cases hf
    refine .inr (.inl ⟨i, j, v1_int hx, v1_bl hy, ?_⟩)
    have := out_int ex o
    cases j <;> exact this
  · rename_i i j heq; cases heq
    split at hf
    · rename_i hl; cases hf
      exact .inr (.inr (.inl ⟨i, j, v1_str hx, v1_str hy, hl, out_str ex o⟩))
    · cases hf
  · rename_i xs ys heq; cases heq
    split at hf
    · rename_i hl; cases hf
      obtain ⟨a, vs, rfl, h1, h2⟩ := v1_lst ex hx
      obtain ⟨b, us, rfl, h3, h4⟩ := v1_lst ex hy
      exact .inr (.inr (.inr ⟨a, b, vs, us, rfl, rfl, h1, h3, by rw [← (h2 H).len, ← (h4 H).len]; exact hl, out_lst ex (fun H => by simpa using (h2 H).append (h4 H)) o⟩))
    · cases hf
  · cases hf
def dSub : List D → Option (D × Nat)
  | [.int i, .int j] => some (.int (i - j), 0)
  | _ => none
theorem s_sub {K : PySem.W.Frag} : Op2S K (rI0 fun i j => .int (i - j)) true dSub := fun x y H Hs a b z Q ex hx hy hf o => by
  unfold dSub at hf
  split at hf
  · rename_i i j heq; cases heq; cases hf
    exact ⟨i, j, v1_int hx, v1_int hy, out_int ex o⟩
  · cases hf
/-- sizes of whole numbers in bits -/
def fitB (n : Nat) (i : Int) : Bool := decide (i.natAbs < 2 ^ n)
def dMul : List D → Option (D × Nat)
  | [.int i, .int j] => if (fitB 60 i || fitB 60 j || (fitB 4000 i && fitB 4000 j)) = true then some (.int (i * j), 0) else none
  | [.lst xs, .int k] => if -(2 ^ 63) ≤ k ∧ k < 2 ^ 63 ∧ xs.length * k.toNat ≤ sizeLine then some (.lst (List.replicate k.toNat xs).flatten, 1) else none
  | _ => none
def rMulD : R2 := fun x y H Q => rI CMul (fun i j => .int (i * j)) x y H Q ∨ rI CMulW (fun i j => .int (i * j)) x y H Q ∨ rRep x y H Q
theorem op_mulD {X : Cx} : OpR X (binaryOp .Mult) rMulD := op_mul.or (op_mulW.or op_rep)
theorem fit64 {i : Int} (h : fitB 60 i = true) : -(2 ^ 64) < i ∧ i < 2 ^ 64 := by
  unfold fitB at h
  have := of_decide_eq_true h
  omega
theorem rp_rep {K : PySem.W.Frag} {H Hs : Hp} {ds : List D} {vs : List V} (h : RpL K H Hs ds 0 vs []) : ∀ n : Nat, RpL K H Hs (List.replicate n ds).flatten 0 (List.replicate n vs).flatten []
  | 0 => ⟨rfl, rfl⟩
  | n + 1 => by
    rw [List.replicate_succ, List.replicate_succ, List.flatten_cons, List.flatten_cons]
    simpa using h.append (rp_rep h n)
theorem fitW {n : Nat} {i : Int} (hn : 0 < n) (h : fitB n i = true) : i.natAbs.log2 < n := by
  unfold fitB at h
  have := of_decide_eq_true h
  by_cases z : i.natAbs = 0
  · rw [z]; simpa using hn
  · exact (Nat.log2_lt z).mpr this
theorem s_mul {K : PySem.W.Frag} : Op2S K rMulD true dMul := fun x y H Hs a b z Q ex hx hy hf o => by
  unfold dMul at hf
  split at hf
  · rename_i i j heq; cases heq
    split at hf
    · rename_i hc; cases hf
      rw [Bool.or_eq_true, Bool.or_eq_true, Bool.and_eq_true] at hc
      rcases hc with (hc | hc) | hc
      · exact .inl ⟨i, j, v1_int hx, v1_int hy, .inl (fit64 hc), out_int ex o⟩
      · exact .inl ⟨i, j, v1_int hx, v1_int hy, .inr (fit64 hc), out_int ex o⟩
      · refine .inr (.inl ⟨i, j, v1_int hx, v1_int hy, ?_, out_int ex o⟩)
        have h1 := fitW (by decide) hc.1
        have h2 := fitW (by decide) hc.2
        show i.natAbs.log2 + j.natAbs.log2 < 1000000
        omega
    · cases hf
  · rename_i xs k heq; cases heq
    split at hf
    · rename_i hc; cases hf
      obtain ⟨a, vs, rfl, h1, h2⟩ := v1_lst ex hx
      exact .inr (.inr ⟨a, k, vs, rfl, v1_int hy, h1, hc.1, hc.2.1, by rw [← (h2 H).len]; exact hc.2.2, out_lst ex (fun H => rp_rep (h2 H) _) o⟩)
    · cases hf
  · cases hf
def dDiv : List D → Option (D × Nat)
  | [.int i, .int j] => if 0 < j ∧ fitB 4000 j = true then some (.int (i / j), 0) else none
  | _ => none
theorem s_div {K : PySem.W.Frag} : Op2S K (rI CDivW fun i j => .int (i / j)) true dDiv := fun x y H Hs a b z Q ex hx hy hf o => by
  unfold dDiv at hf
  split at hf
  · rename_i i j heq; cases heq
    split at hf
    · rename_i hc; cases hf
      exact ⟨i, j, v1_int hx, v1_int hy, ⟨hc.1, by have := fitW (by decide) hc.2; omega⟩, out_int ex o⟩
    · cases hf
  · cases hf
def dMod : List D → Option (D × Nat)
  | [.int i, .int j] => if 0 < j then some (.int (i % j), 0) else none
  | _ => none
theorem s_mod {K : PySem.W.Frag} : Op2S K (rI (fun _ j => 0 < j) fun i j => .int (i % j)) true dMod := fun x y H Hs a b z Q ex hx hy hf o => by
  unfold dMod at hf
  split at hf
  · rename_i i j heq; cases heq
    split at hf
    · rename_i hc; cases hf
      exact ⟨i, j, v1_int hx, v1_int hy, hc, out_int ex o⟩
    · cases hf
  · cases hf
def dPow : List D → Option (D × Nat)
  | [.int i, .int j] => if 0 ≤ j ∧ j ≤ 100000 ∧ fitB 60 i = true then some (.int (i ^ j.toNat), 0) else none
  | _ => none
theorem s_pow {K : PySem.W.Frag} : Op2S K (rI CPow fun i j => .int (i ^ j.toNat)) true dPow := fun x y H Hs a b z Q ex hx hy hf o => by
  unfold dPow at hf
  split at hf
  · rename_i i j heq; cases heq
    split at hf
    · rename_i hc; cases hf
      exact ⟨i, j, v1_int hx, v1_int hy, ⟨hc.1, by omega, by have := fit64 hc.2.2; omega⟩, out_int ex o⟩
    · cases hf
  · cases hf
def dNeg : List D → Option (D × Nat)
  | [.int i] => some (.int (-i), 0)
  | _ => none
theorem s_neg {K : PySem.W.Frag} : Op1S K (rU fun i => .int (-i)) true dNeg := fun x H Hs a z Q ex hx hf o => by
  unfold dNeg at hf
  split at hf
  · rename_i i heq; cases heq; cases hf
    exact ⟨i, v1_int hx, out_int ex o⟩
  · cases hf
/-! ### comparisons -/
def dCmp (f : Int → Int → Bool) (g : List Nat → List Nat → Bool) : List D → Option (D × Nat)
  | [.int i, .int j] => some (.bl (f i j), 0)
  | [.str x, .str y] => some (.bl (g x.cps.toList y.cps.toList), 0)
  | _ => none
def rCmpD (f : Int → Int → Bool) (g : List Nat → List Nat → Bool) : R2 := fun x y H Q => rI0 (fun i j => .bl (f i j)) x y H Q ∨ (∃ i j, x = .str i ∧ y = .str j ∧ Q (.bl (g i.cps.toList j.cps.toList)) H)
theorem s_cmp {K : PySem.W.Frag} {f : Int → Int → Bool} {g : List Nat → List Nat → Bool} : Op2S K (rCmpD f g) true (dCmp f g) := fun x y H Hs a b z Q ex hx hy hf o => by
  unfold dCmp at hf
  split at hf
  · rename_i i j heq; cases heq; cases hf
    exact .inl ⟨i, j, v1_int hx, v1_int hy, out_bl ex o⟩
  · rename_i i j heq; cases heq; cases hf
    exact .inr ⟨i, j, v1_str hx, v1_str hy, out_bl ex o⟩
  · cases hf
abbrev dLt := dCmp (fun i j => decide (i < j)) fun i j => decide (i < j)
abbrev dLe := dCmp (fun i j => decide (i ≤ j)) fun i j => !decide (j < i)
abbrev dGt := dCmp (fun i j => decide (j < i)) fun i j => decide (j < i)
abbrev dGe := dCmp (fun i j => decide (j ≤ i)) fun i j => !decide (i < j)
theorem op_ltD {X : Cx} : OpR X (compareOp .Lt) (rCmpD (fun i j => decide (i < j)) fun i j => decide (i < j)) := op_lt.or op_lt_str
theorem op_leD {X : Cx} : OpR X (compareOp .LtE) (rCmpD (fun i j => decide (i ≤ j)) fun i j => !decide (j < i)) := op_le.or op_le_str
theorem op_gtD {X : Cx} : OpR X (compareOp .Gt) (rCmpD (fun i j => decide (j < i)) fun i j => decide (j < i)) := op_gt.or op_gt_str
theorem op_geD {X : Cx} : OpR X (compareOp .GtE) (rCmpD (fun i j => decide (j ≤ i)) fun i j => !decide (i < j)) := op_ge.or op_ge_str
/-! equality -/
def scalD : D → D → Bool
  | .non, .non => true | .non, .int _ => true | .int _, .non => true | .non, .bl _ => true | .bl _, .non => true | .non, .str _ => true | .str _, .non => true
  | .int _, .int _ => true | .bl _, .bl _ => true | .str _, .str _ => true
  | .int _, .str _ => true | .str _, .int _ => true | .bl _, .str _ => true | .str _, .bl _ => true
  | _, _ => false
mutual
def toPy : D → PyData
  | .non => .none | .bl b => .bool b | .int i => .int i | .str x => .str x
  | .lst xs => .list (toPyL xs) | .kls xs => .list (toPyL xs) | .tup xs => .tuple (toPyL xs)
  | .dct _ _ _ => .none | .obj _ _ _ => .none
def toPyL : List D → List PyData
  | [] => [] | x :: xs => toPy x :: toPyL xs
end
mutual
/-- data that == may be asked of: n deep at most, without truth values -/
def lay : Nat → D → Bool
  | _, .non => true | _, .int _ => true | _, .str x => PyData.strOk x
  | n + 1, .lst xs => layL n xs | n + 1, .tup xs => layL n xs
  | _, _ => false
def layL : Nat → List D → Bool
  | _, [] => true | n, x :: xs => lay n x && layL n xs
end
mutual
theorem lay_can : ∀ (n : Nat) (d : D), lay n d = true → PyData.canLay0 (toPy d) = true ∧ (toPy d).depth ≤ n
  | _, .non, _ => ⟨rfl, Nat.zero_le _⟩
  | _, .int _, _ => ⟨rfl, Nat.zero_le _⟩
  | n, .str x, h => by
    unfold lay at h
    exact ⟨h, Nat.zero_le _⟩
  | n + 1, .lst xs, h => by
    unfold lay at h
    obtain ⟨h1, h2⟩ := lay_canL n xs h
    exact ⟨h1, Nat.succ_le_succ h2⟩
  | n + 1, .tup xs, h => by
    unfold lay at h
    obtain ⟨h1, h2⟩ := lay_canL n xs h
    exact ⟨h1, Nat.succ_le_succ h2⟩
  | 0, .lst xs, h => by cases h
  | 0, .tup xs, h => by cases h
  | 0, .kls _, h => by cases h
  | _ + 1, .kls _, h => by cases h
  | 0, .bl _, h => by cases h
  | _ + 1, .bl _, h => by cases h
  | 0, .dct _ _ _, h => by cases h
  | _ + 1, .dct _ _ _, h => by cases h
  | 0, .obj _ _ _, h => by cases h
  | _ + 1, .obj _ _ _, h => by cases h
theorem lay_canL : ∀ (n : Nat) (ds : List D), layL n ds = true → PyData.canLayAll0 (toPyL ds) = true ∧ PyData.depthAll (toPyL ds) ≤ n
  | _, [], _ => ⟨rfl, Nat.zero_le _⟩
  | n, d :: ds, h => by
    unfold layL at h
    rw [Bool.and_eq_true] at h
    obtain ⟨h1, h2⟩ := lay_can n d h.1
    obtain ⟨h3, h4⟩ := lay_canL n ds h.2
    refine ⟨?_, ?_⟩
    · show (PyData.canLay0 (toPy d) && PyData.canLayAll0 (toPyL ds)) = true
      rw [h1, h3]; rfl
    · show max (toPy d).depth (PyData.depthAll (toPyL ds)) ≤ n
      exact Nat.max_le.mpr ⟨h2, h4⟩
end
mutual
theorem eqv_lay : ∀ (n m : Nat) (d e : D), lay n d = true → lay m e = true → PyData.eqv (toPy d) (toPy e) = D.beq d e
  | n, m, .non, e, _, he => by cases e <;> first | rfl | (cases m <;> cases he)
  | n, m, .int i, e, _, he => by cases e <;> first | rfl | (cases m <;> cases he)
  | n, m, .str x, e, _, he => by
    cases e with
    | str y =>
      show (x == y) = decide (x = y)
      by_cases z : x = y
      · subst z; simp
      · rw [decide_eq_false z]; exact beq_eq_false_iff_ne.mpr z
    | non => rfl
    | int _ => rfl
    | lst _ => rfl
    | tup _ => rfl
    | kls _ => cases m <;> cases he
    | bl _ => cases m <;> cases he
    | dct _ _ _ => cases m <;> cases he
    | obj _ _ _ => cases m <;> cases he
  | 0, m, .lst xs, e, h, _ => by cases h
  | n + 1, m, .lst xs, e, h, he => by
    cases e with
    | lst ys =>
      cases m with
      | zero => cases he
      | succ m =>
        unfold lay at h he
        exact eqv_layL n m xs ys h he
    | non => rfl
    | int _ => rfl
    | str _ => rfl
    | tup _ => rfl
    | kls _ => cases m <;> cases he
    | bl _ => cases m <;> cases he
    | dct _ _ _ => cases m <;> cases he
    | obj _ _ _ => cases m <;> cases he
  | 0, m, .tup xs, e, h, _ => by cases h
  | n + 1, m, .tup xs, e, h, he => by
    cases e with
    | tup ys =>
      cases m with
      | zero => cases he
      | succ m =>
        unfold lay at h he
        exact eqv_layL n m xs ys h he
    | non => rfl
    | int _ => rfl
    | str _ => rfl
    | lst _ => rfl
    | kls _ => cases m <;> cases he
    | bl _ => cases m <;> cases he
    | dct _ _ _ => cases m <;> cases he
    | obj _ _ _ => cases m <;> cases he
  | 0, _, .kls _, _, h, _ => by cases h
  | _ + 1, _, .kls _, _, h, _ => by cases h
  | 0, _, .bl _, _, h, _ => by cases h
  | _ + 1, _, .bl _, _, h, _ => by cases h
  | 0, _, .dct _ _ _, _, h, _ => by cases h
  | _ + 1, _, .dct _ _ _, _, h, _ => by cases h
  | 0, _, .obj _ _ _, _, h, _ => by cases h
  | _ + 1, _, .obj _ _ _, _, h, _ => by cases h
theorem eqv_layL : ∀ (n m : Nat) (d e : List D), layL n d = true → layL m e = true → PyData.eqvAll (toPyL d) (toPyL e) = D.beqL d e
  | _, _, [], [], _, _ => rfl
  | _, _, [], _ :: _, _, _ => rfl
  | _, _, _ :: _, [], _, _ => rfl
  | n, m, d :: ds, e :: es, h, he => by
    unfold layL at h he
    rw [Bool.and_eq_true] at h he
    show (PyData.eqv (toPy d) (toPy e) && PyData.eqvAll (toPyL ds) (toPyL es)) = (D.beq d e && D.beqL ds es)
    rw [eqv_lay n m d e h.1 he.1, eqv_layL n m ds es h.2 he.2]
end
section
variable {K : PySem.W.Frag} {H Hs : Hp} {Q : VK}
mutual
theorem dp_of : ∀ (n : Nat) (d : D) (v : V), lay n d = true → Rp K H H d 0 v [] → Dp K H v (toPy d)
  | _, .non, _, _, h => by obtain ⟨rfl, _⟩ := h; exact .non
  | _, .int _, _, _, h => by obtain ⟨rfl, _⟩ := h; exact .int _
  | _, .str _, _, _, h => by obtain ⟨rfl, _⟩ := h; exact .str _
  | 0, .lst _, _, h, _ => by cases h
  | n + 1, .lst xs, v, hl, h => by
    obtain ⟨a, vs, f, rfl, h1, hc⟩ := h
    rcases hc with ⟨_, h2, rfl⟩ | ⟨hk, _⟩
    · unfold lay at hl
      exact .lst (.inl (.inl h2)) (dp_ofL n xs vs hl h1)
    · exact absurd hk (Nat.lt_irrefl _)
  | 0, .tup _, _, h, _ => by cases h
  | n + 1, .tup xs, v, hl, h => by
    obtain ⟨a, vs, rfl, h1, h2⟩ := h
    unfold lay at hl
    exact .tup (.inl (.inl h2)) (dp_ofL n xs vs hl h1)
  | 0, .kls _, _, h, _ => by cases h
  | _ + 1, .kls _, _, h, _ => by cases h
  | 0, .bl _, _, h, _ => by cases h
  | _ + 1, .bl _, _, h, _ => by cases h
  | 0, .dct _ _ _, _, h, _ => by cases h
  | _ + 1, .dct _ _ _, _, h, _ => by cases h
  | 0, .obj _ _ _, _, h, _ => by cases h
  | _ + 1, .obj _ _ _, _, h, _ => by cases h
theorem dp_ofL : ∀ (n : Nat) (ds : List D) (vs : List V), layL n ds = true → RpL K H H ds 0 vs [] → DpAll K H vs (toPyL ds)
  | _, [], _, _, h => by obtain ⟨rfl, _⟩ := h; exact .nil
  | n, d :: ds, vs, hl, h => by
    unfold layL at hl
    rw [Bool.and_eq_true] at hl
    obtain ⟨v, r, rfl, h1, h2⟩ := h.uncons
    exact .cons (dp_of n d v hl.1 h1) (dp_ofL n ds r hl.2 h2)
end
theorem shaped_of {n : Nat} (hn : n ≤ 64) {d : D} (h : lay n d = true) : SeqAt.shaped (toPy d) = true := by
  obtain ⟨h1, h2⟩ := lay_can n d h
  unfold SeqAt.shaped
  rw [h1, decide_eq_true (show (toPy d).depth ≤ 64 by omega)]
  rfl
end
def eqD (d e : D) : Option Bool := if scalD d e = true then some (decide (d = e)) else if (lay 6 d && lay 6 e) = true then some (decide (d = e)) else none
def dEq : List D → Option (D × Nat)
  | [a, b] => (eqD a b).map fun r => (.bl r, 0)
  | _ => none
def dNe : List D → Option (D × Nat)
  | [a, b] => (eqD a b).map fun r => (.bl (!r), 0)
  | _ => none
theorem beq_dec (d e : D) : D.beq d e = decide (d = e) := by
  by_cases z : d = e
  · subst z; rw [D.beq_refl]; simp
  · rw [decide_eq_false z]
    cases h : D.beq d e with
    | false => rfl
    | true => exact absurd (D.eq_of_beq d e h) z
theorem scal_of {K : PySem.W.Frag} {H Hs : Hp} {a b : D} {x y : V} {lim : Bool} (h : scalD a b = true) (hx : V1 K H Hs lim a x) (hy : V1 K H Hs lim b y) : scal x y = true ∧ decide (x = y) = decide (a = b) := by
  obtain ⟨k, f, _, hx⟩ := hx
  obtain ⟨j, g, _, hy⟩ := hy
  cases a <;> cases b <;> first | (cases h; done) | skip
  all_goals
    obtain ⟨rfl, _⟩ := hx
    obtain ⟨rfl, _⟩ := hy
    refine ⟨rfl, ?_⟩
    simp
theorem s_eq {K : PySem.W.Frag} : Op2S K (fun x y H Q => rEq x y H Q ∨ rEqD K x y H Q) false dEq := fun x y H Hs a b z Q ex hx hy hf o => by
  obtain ⟨r, hr, rfl⟩ := Option.map_eq_some_iff.mp (show (eqD a b).map (fun r => (D.bl r, 0)) = some z from hf)
  unfold eqD at hr
  split at hr
  · rename_i hs; cases hr
    obtain ⟨h1, h2⟩ := scal_of hs hx hy
    exact .inl ⟨h1, by rw [h2]; exact out_bl ex o⟩
  · split at hr
    · rename_i hl; cases hr
      rw [Bool.and_eq_true] at hl
      obtain ⟨k, f, _, hx⟩ := hx
      obtain ⟨j, g, _, hy⟩ := hy
      exact .inr ⟨toPy a, toPy b, dp_of 6 a x hl.1 (hx.view ex), dp_of 6 b y hl.2 (hy.view ex), shaped_of (by decide) hl.1, shaped_of (by decide) hl.2, by rw [eqv_lay 6 6 a b hl.1 hl.2, beq_dec]; exact out_bl ex o⟩
    · cases hr
theorem s_ne {K : PySem.W.Frag} : Op2S K (fun x y H Q => rNe x y H Q ∨ rNeD K x y H Q) false dNe := fun x y H Hs a b z Q ex hx hy hf o => by
  obtain ⟨r, hr, rfl⟩ := Option.map_eq_some_iff.mp (show (eqD a b).map (fun r => (D.bl (!r), 0)) = some z from hf)
  unfold eqD at hr
  split at hr
  · rename_i hs; cases hr
    obtain ⟨h1, h2⟩ := scal_of hs hx hy
    exact .inl ⟨h1, by rw [h2]; exact out_bl ex o⟩
  · split at hr
    · rename_i hl; cases hr
      rw [Bool.and_eq_true] at hl
      obtain ⟨k, f, _, hx⟩ := hx
      obtain ⟨j, g, _, hy⟩ := hy
      exact .inr ⟨toPy a, toPy b, dp_of 6 a x hl.1 (hx.view ex), dp_of 6 b y hl.2 (hy.view ex), shaped_of (by decide) hl.1, shaped_of (by decide) hl.2, by rw [eqv_lay 6 6 a b hl.1 hl.2, beq_dec]; exact out_bl ex o⟩
    · cases hr
theorem op_eqX {X : Cx} (hu : X.A.units + 64 < cLine) : OpR X (compareOp .Eq) (fun x y H Q => rEq x y H Q ∨ rEqD X.K x y H Q) := op_eq.or (op_eqD hu)
theorem op_neX {X : Cx} (hu : X.A.units + 64 < cLine) : OpR X (compareOp .NotEq) (fun x y H Q => rNe x y H Q ∨ rNeD X.K x y H Q) := op_ne.or (op_neD hu)
/-- is None, is not None -/
def dIsN : List D → Option (D × Nat)
  | [a, .non] => some (.bl (decide (a = .non)), 0)
  | _ => none
def dNotN : List D → Option (D × Nat)
  | [a, .non] => some (.bl (!decide (a = .non)), 0)
  | _ => none
theorem non_of {K : PySem.W.Frag} {H Hs : Hp} {a : D} {x : V} {lim : Bool} (hx : V1 K H Hs lim a x) : decide (x = .non) = decide (a = .non) := by
  obtain ⟨k, f, _, hx⟩ := hx
  cases a with
  | non => obtain ⟨rfl, _⟩ := hx; simp
  | bl _ => obtain ⟨rfl, _⟩ := hx; simp
  | int _ => obtain ⟨rfl, _⟩ := hx; simp
  | str _ => obtain ⟨rfl, _⟩ := hx; simp
  | lst _ => obtain ⟨a, vs, f, rfl, _⟩ := hx; simp
  | tup _ => obtain ⟨a, vs, rfl, _⟩ := hx; simp
  | kls _ => obtain ⟨a, vs, rfl, _⟩ := hx; simp
  | dct _ _ _ => obtain ⟨a, vs, f, rfl, _⟩ := hx; simp
  | obj _ _ _ => obtain ⟨a, vs, f, dx, rfl, _⟩ := hx; simp
theorem s_isN {K : PySem.W.Frag} : Op2S K (fun x y H Q => y = .non ∧ Q (.bl (decide (x = .non))) H) false dIsN := fun x y H Hs a b z Q ex hx hy hf o => by
  unfold dIsN at hf
  split at hf
  · rename_i a' heq; cases heq; cases hf
    exact ⟨v1_non hy, by rw [non_of hx]; exact out_bl ex o⟩
  · cases hf
theorem s_notN {K : PySem.W.Frag} : Op2S K (fun x y H Q => y = .non ∧ Q (.bl (!decide (x = .non))) H) false dNotN := fun x y H Hs a b z Q ex hx hy hf o => by
  unfold dNotN at hf
  split at hf
  · rename_i a' heq; cases heq; cases hf
    exact ⟨v1_non hy, by rw [non_of hx]; exact out_bl ex o⟩
  · cases hf
end Rf
/-! Rf, part H: containers, texts, built-ins. -/
namespace Rf
open PySem PySem.Spec PyProof.Rows L2
open Evl (Ex)
/-! ### operands put still -/
def mFz (ms : M (List Op)) : M (List D) := ms.bind fun os e => if anyOwn (frzAll e os) os = true then none else oK (ag0 (frzAll e os) os) (frzAll e os)
theorem rpM_L {K : PySem.W.Frag} {H Hs : Hp} : ∀ {n : Nat} {ds : List D} {vs : List V} {fp : List Addr}, RpM K H Hs ds (List.replicate n 0) vs fp → RpL K H Hs ds 0 vs []
  | 0, [], vs, fp, h => ⟨h.1, rfl⟩
  | 0, _ :: _, _, _, h => h.elim
  | n + 1, [], _, _, h => h.elim
  | n + 1, d :: ds, vs, fp, h => by
    obtain ⟨v, r, f, g, rfl, rfl, h1, h2⟩ := h
    have := h1.fp0
    subst this
    exact ⟨v, r, [], [], rfl, rfl, h1, rpM_L h2⟩
section
variable {K : PySem.W.Frag} {p : Pins} {W : WX} {e e' : En} {σ : L2.St} {H H1 H' Hs Hs1 Hs' : Hp} {fp fp1 fp' : List Addr}
theorem t_fz {ms : M (List Op)} {k : List D → En → Prop} (r : Rel K p e σ H Hs fp) (q : kM K p W H Hs fp (mFz ms e) k) :
    tMA K p W ms σ H fun vs H' => ∃ ds e2 Hs' fp', Rel K p e2 σ H' Hs' fp' ∧ (∀ H, RpL K H Hs' ds 0 vs []) ∧ Stp H Hs fp H' Hs' fp' ∧ k ds e2 := by
  refine ⟨e, Hs, fp, r, q.bind.imp (Stp.refl _ _ _) fun os e1 k1 vs H' Hs' fp' ro s1 => ?_⟩
  have k1 := k1.imp s1 fun _ _ z => z
  split at k1
  · exact k1.elim
  · rename_i hown
    obtain ⟨ds, hd, k2⟩ := kM_oK k1
    obtain ⟨Hs2, fp2, r2, s2⟩ := frzAll_ok (os := os) ro.1
    obtain ⟨fB, q1, q2, q3⟩ := ag0_ok r2 (paired_keep ro.2 s2.ex) hd
    have := q2 (by simpa using hown)
    subst this
    exact ⟨ds, _, Hs2, fp2, r2, fun H => (rpM_L (q3 Hs2 (Ex.refl _) fun a ha => nomatch ha)).still (Ex.refl _), s1.trans s2, k2⟩
/-- the end of a rule that makes a new list, a new tuple -/
theorem end_lst {ds : List D} {vs : List V} {Q : VK} {H0 Hs0 : Hp} {fp0 : List Addr} (r : Rel K p e σ H Hs fp) (h : ∀ H, RpL K H Hs ds 0 vs []) (s : Stp H0 Hs0 fp0 H Hs fp) (k : ∀ v H' Hs' fp', RO K p e σ H' Hs' fp' (.val (.lst ds) 1) v → Stp H0 Hs0 fp0 H' Hs' fp' → Q v H') : ∀ a, H a = none → Q (.ref a) (upd H a (.lst vs)) :=
  out_lst (K := K) r.ex h fun v H' Hs' g ex hr nd st => by
    obtain ⟨h1, h2⟩ := Out.ro r ex hr nd st
    exact k v H' Hs' _ h1 (s.trans h2)
theorem end_tup {ds : List D} {vs : List V} {Q : VK} {H0 Hs0 : Hp} {fp0 : List Addr} (r : Rel K p e σ H Hs fp) (h : ∀ H, RpL K H Hs ds 0 vs []) (s : Stp H0 Hs0 fp0 H Hs fp) (k : ∀ v H' Hs' fp', RO K p e σ H' Hs' fp' (.val (.tup ds) 0) v → Stp H0 Hs0 fp0 H' Hs' fp' → Q v H') : ∀ a, H a = none → Q (.ref a) (upd H a (.tup vs)) :=
  out_tup (K := K) r.ex h fun v H' Hs' g ex hr nd st => by
    obtain ⟨h1, h2⟩ := Out.ro r ex hr nd st
    exact k v H' Hs' _ h1 (s.trans h2)
end
def mLst (ms : M (List Op)) : M Op := (mFz ms).bind fun ds e => if ds.length ≤ sizeLine then some (.ok (.val (.lst ds) 1) e) else none
def mTup (ms : M (List Op)) : M Op := (mFz ms).bind fun ds e => if ds.length ≤ sizeLine then some (.ok (.val (.tup ds) 0) e) else none
/-- an empty list that lists are to be put into -/
def mNew (k : Nat) : M Op := fun e => some (.ok (.val (.lst []) (k + 1)) e)
section
variable {X : Cx} {p : Pins} {W : WX}
theorem tMA_mono {K : PySem.W.Frag} {ms : M (List Op)} {σ : L2.St} {H : Hp} {Q Q' : List V → Hp → Prop} (h : tMA K p W ms σ H Q) (hq : ∀ v H, Q v H → Q' v H) : tMA K p W ms σ H Q' := by
  obtain ⟨e, Hs, fp, r, h⟩ := h
  exact ⟨e, Hs, fp, r, h.imp (Stp.refl _ _ _) fun o e' q v H' Hs' fp' hr s => hq _ _ (q v H' Hs' fp' hr s)⟩
theorem kM_if {α : Type} {K : PySem.W.Frag} {H Hs : Hp} {fp : List Addr} {c : Prop} [Decidable c] {r : Rs α} {k : α → En → Prop} (h : kM K p W H Hs fp (if c then some r else none) k) : c ∧ kM K p W H Hs fp (some r) k := by
  split at h
  · rename_i hc; exact ⟨hc, h⟩
  · exact h.elim
theorem re_lst {es : List Expr} {ms : M (List Op)} {pos : Pos} (h : RA X p W es ms) : RE X p W (.List es pos) (mLst ms) := ⟨PE_imp (pe_lst h.pa) fun σ H Q q => by
  obtain ⟨e, Hs, fp, r, q⟩ := q
  refine tMA_mono (t_fz r q.bind) fun vs H' ⟨ds, e2, Hs', fp', r2, hl, s, k⟩ => ?_
  obtain ⟨hlen, k⟩ := kM_if k
  exact ⟨by rw [← (hl H').len]; exact hlen, end_lst r2 hl s k⟩⟩
theorem re_tup {es : List Expr} {ms : M (List Op)} {x1 : Nat} {pos : Pos} (h : RA X p W es ms) : RE X p W (.Tuple es x1 pos) (mTup ms) := ⟨PE_imp (pe_tup h.pa) fun σ H Q q => by
  obtain ⟨e, Hs, fp, r, q⟩ := q
  refine tMA_mono (t_fz r q.bind) fun vs H' ⟨ds, e2, Hs', fp', r2, hl, s, k⟩ => ?_
  obtain ⟨hlen, k⟩ := kM_if k
  exact ⟨by rw [← (hl H').len]; exact hlen, end_tup r2 hl s k⟩⟩
theorem re_new (k : Nat) {pos : Pos} : RE X p W (.List [] pos) (mNew k) := ⟨PE_imp (pe_lst pa_nil) fun σ H Q q => by
  obtain ⟨e, Hs, fp, r, q⟩ := q
  refine ⟨Nat.zero_le _, fun a ha => ?_⟩
  have nS := Evl.fresh_back r.ex ha
  have nf : a ∉ fp := fun z => by obtain ⟨_, o, ho⟩ := r.disj a z; rw [ha] at ho; cases ho
  refine q (.ref a) _ Hs (fp ++ [a]) ⟨fp, [a], rfl, r.frame (Ex.refl _) (ex_updO r.ex nS) fun b hb => ⟨by rw [upd_ne (mem_ne hb nf)], (r.disj b hb).1⟩, ⟨a, [], [], rfl, RpL.nil', .inr ⟨Nat.succ_pos _, upd_same, nS, rfl⟩⟩, List.nodup_append.mpr ⟨r.nd, by simp, fun x hx y hy e => nf (by simp at hy; subst hy; exact e ▸ hx)⟩⟩ (Stp.newO ha r.ex)⟩
/-! ### subscripts -/
def dItem : List D → Option (D × Nat)
  | [.lst ds, .int i] => (atI ds i).map fun d => (d, 0)
  | [.kls ds, .int i] => (atI ds i).map fun d => (d, 0)
  | [.tup ds, .int i] => (atI ds i).map fun d => (d, 0)
  | [.str x, .int i] => if x.length ≤ sizeLine then (atI x.cps.toList i).map fun c => (.str ⟨#[c]⟩, 0) else none
  | _ => none
theorem at_rp {K : PySem.W.Frag} {H Hs : Hp} {ds : List D} {vs : List V} {i : Int} {d : D} (h : RpL K H Hs ds 0 vs []) (ha : atI ds i = some d) : ∃ v, atI vs i = some v ∧ Rp K H Hs d 0 v [] := by
  unfold atI at ha ⊢
  obtain ⟨j, hj, hd⟩ := Option.bind_eq_some_iff.mp ha
  obtain ⟨v, hv, hr⟩ := h.get hd
  exact ⟨v, by rw [← h.len, hj]; exact hv, hr⟩
theorem s_item {K : PySem.W.Frag} : Op2S K (rIx K) true dItem := fun x y H Hs a b z Q ex hx hy hf o => by
  unfold dItem at hf
  split at hf
  · rename_i ds i heq; cases heq
    obtain ⟨d, hd, rfl⟩ := Option.map_eq_some_iff.mp hf
    obtain ⟨a, vs, rfl, h1, h2⟩ := v1_lst ex hx
    obtain ⟨v, hv, hr⟩ := at_rp (h2 H) hd
    exact .inl ⟨a, vs, i, v, rfl, v1_int hy, .inl (.inl h1), hv, out_still ex hr o⟩
  · rename_i ds i heq; cases heq
    obtain ⟨d, hd, rfl⟩ := Option.map_eq_some_iff.mp hf
    obtain ⟨a, vs, rfl, h1, h2⟩ := v1_kls ex hx
    obtain ⟨v, hv, hr⟩ := at_rp (h2 H) hd
    exact .inl ⟨a, vs, i, v, rfl, v1_int hy, h1, hv, out_still ex hr o⟩
  · rename_i ds i heq; cases heq
    obtain ⟨d, hd, rfl⟩ := Option.map_eq_some_iff.mp hf
    obtain ⟨a, vs, rfl, h1, h2⟩ := v1_tup ex hx
    obtain ⟨v, hv, hr⟩ := at_rp (h2 H) hd
    exact .inr (.inl ⟨a, vs, i, v, rfl, v1_int hy, .inl (.inl h1), hv, out_still ex hr o⟩)
  · rename_i x' i heq; cases heq
    split at hf
    · rename_i hl
      obtain ⟨c, hc, rfl⟩ := Option.map_eq_some_iff.mp hf
      exact .inr (.inr ⟨x', i, c, v1_str hx, v1_int hy, hl, hc, out_str ex o⟩)
    · cases hf
  · cases hf
theorem re_ix {a b : Expr} {pos : Pos} {ma mb : M Op} (ha : RE X p W a ma) (hb : RE X p W b mb) (hs : PlainIx b := by exact fun _ _ => rfl) : RE X p W (.Subscript a b pos) (mF true dItem (mCons ma (mCons mb mNil))) :=
  ⟨PE_imp (pe_ix ix_seq ha.pe hb.pe hs) fun σ H Q q => t_op s_item q⟩
/-! slices -/
def mPt (m : M Op) : M (Option Int) := m.bind fun o e => oK ((pk e (frz o)).bind fun x => match x.1 with
  | .int i => some (some i)
  | _ => none) e
def mPn : M (Option Int) := oK (some none)
def tO (K : PySem.W.Frag) (p : Pins) (W : WX) (m : M (Option Int)) : TO := fun σ H Q => ∃ e Hs fp, Rel K p e σ H Hs fp ∧ kM K p W H Hs fp (m e) fun i e' => ∀ H' Hs' fp', Rel K p e' σ H' Hs' fp' → Stp H Hs fp H' Hs' fp' → Q i H'
structure RO' (X : Cx) (p : Pins) (W : WX) (x : Option Expr) (m : M (Option Int)) : Prop where
  po : PO X x (tO X.K p W m)
theorem PO_imp {x : Option Expr} {t t' : TO} (h : PO X x t) (hi : ∀ σ H Q, t' σ H Q → t σ H Q) : PO X x t' := by
  obtain ⟨r⟩ := h
  exact ⟨fun pins s σ H Q I q => r pins s σ H Q I (hi σ H Q q)⟩
theorem ro_none : RO' X p W none mPn := ⟨PO_imp po_none fun σ H Q q => by
  obtain ⟨e, Hs, fp, r, q⟩ := q
  exact q H Hs fp r (Stp.refl _ _ _)⟩
theorem ro_some {x : Expr} {m : M Op} (h : RE X p W x m) : RO' X p W (some x) (mPt m) := ⟨PO_imp (po_some h.pe) fun σ H Q q => by
  obtain ⟨e, Hs, fp, r, q⟩ := q
  refine tM.then' r q fun o e' v H' Hs' fp' k r' ro s => ?_
  obtain ⟨i, hi, k⟩ := kM_oK k
  obtain ⟨x, hx, hi⟩ := Option.bind_eq_some_iff.mp hi
  obtain ⟨f, hr, _⟩ := pk_rp r' ro hx
  split at hi
  · rename_i j hj
    cases hi
    rw [hj] at hr
    exact ⟨j, hr.1, k H' Hs' fp' r' s⟩
  · cases hi⟩
def cutD (xs : List D) (lo hi : Option Int) : List D := (xs.drop (HT.sIx xs.length 0 lo)).take (HT.sIx xs.length xs.length hi - HT.sIx xs.length 0 lo)
def dCut (l h : Option Int) : List D → Option (D × Nat)
  | [.lst ds] => some (.lst (cutD ds l h), 1)
  | [.kls ds] => some (.lst (cutD ds l h), 1)
  | [.str x] => if x.length ≤ sizeLine then some (.str (cutS x l h), 0) else none
  | _ => none
def mSl (m : M Op) (l h : M (Option Int)) : M Op := m.bind fun o => l.bind fun i => h.bind fun j e => oK (((pkL true e [frz o]).bind (dCut i j)).map fun r => Op.val r.1 r.2) e
def rSlD (K : PySem.W.Frag) : V → Option Int → Option Int → Hp → VK → Prop := fun x lo hi H Q => rSlL K x lo hi H Q ∨ rSlS x lo hi H Q
theorem slr_or {r r' : V → Option Int → Option Int → Hp → VK → Prop} (h : L2.SlR X r) (h' : L2.SlR X r') : L2.SlR X (fun x l u H Q => r x l u H Q ∨ r' x l u H Q) := by
  intro pins s σ H x v vl vu lo hi sl Q I rx hs pl pu q
  rcases q with q | q
  · exact h pins s σ H x v vl vu lo hi sl Q I rx hs pl pu q
  · exact h' pins s σ H x v vl vu lo hi sl Q I rx hs pl pu q
theorem cut_rp {K : PySem.W.Frag} {H Hs : Hp} {ds : List D} {vs : List V} {l h : Option Int} (q : RpL K H Hs ds 0 vs []) : RpL K H Hs (cutD ds l h) 0 (cutV vs l h) [] := by
  unfold cutD cutV
  rw [q.len]
  exact (q.drop _).take _
theorem re_sl {a : Expr} {lo hi : Option Expr} {pos p2 : Pos} {m : M Op} {ml mh : M (Option Int)} (ha : RE X p W a m) (hl : RO' X p W lo ml) (hh : RO' X p W hi mh) : RE X p W (.Subscript a (.Slice lo hi none p2) pos) (mSl m ml mh) := ⟨PE_imp (pe_slice (r := rSlD X.K) (slr_or sl_list sl_str) ha.pe hl.po hh.po) fun σ H Q q => by
  obtain ⟨e, Hs, fp, r, q⟩ := q
  refine tM.then' (Q := fun x H1 => tO X.K p W ml σ H1 fun l H2 => tO X.K p W mh σ H2 fun u H3 => rSlD X.K x l u H3 Q) r q fun o e' v H' Hs' fp' k r' ro s => ?_
  refine ⟨e', Hs', fp', r', k.bind.imp (Stp.refl _ _ _) fun l e2 k2 H2 Hs2 fp2 r2 s2 => ?_⟩
  refine ⟨e2, Hs2, fp2, r2, (kM.bind k2).imp s2 fun u e3 k3 H3 Hs3 fp3 r3 s3 => ?_⟩
  obtain ⟨w, hw, k4⟩ := kM_oK k3
  obtain ⟨z, hz, rfl⟩ := Option.map_eq_some_iff.mp hw
  obtain ⟨ds, hd, hz⟩ := Option.bind_eq_some_iff.mp hz
  have hp := pkL_rp r3 (.cons (ro.keep (s2.trans s3).ex) .nil) hd
  have o : Out X.K H3 Hs3 z Q := fun v H4 Hs4 g ex hg nd st => by
    obtain ⟨h1, h2⟩ := Out.ro r3 ex hg nd st
    exact k4 v H4 Hs4 _ h1 (((s.trans s2).trans s3).trans h2)
  cases hp with
  | cons h1 h2 =>
    cases h2
    unfold dCut at hz
    split at hz
    · rename_i heq; cases heq; cases hz
      obtain ⟨a, vs, rfl, q1, q2⟩ := v1_lst r3.ex h1
      exact .inl ⟨a, vs, rfl, .inl (.inl q1), out_lst r3.ex (fun H => cut_rp (q2 H)) o⟩
    · rename_i heq; cases heq; cases hz
      obtain ⟨a, vs, rfl, q1, q2⟩ := v1_kls r3.ex h1
      exact .inl ⟨a, vs, rfl, q1, out_lst r3.ex (fun H => cut_rp (q2 H)) o⟩
    · rename_i heq; cases heq
      split at hz
      · rename_i hl; cases hz
        exact .inr ⟨_, v1_str h1, hl, out_str r3.ex o⟩
      · cases hz
    · cases hz⟩
/-! ### what changes a list in a slot -/
def MutS (K : PySem.W.Frag) (r : V → List V → Hp → VK → Prop) (f : List D → List D → Option (List D × D)) : Prop := ∀ l vs ds xs as H Hs ds' d (Q : VK), Ex Hs H → H l = some (.lst vs) → (∀ H, RpL K H Hs ds 0 vs []) → (∀ H, RpL K H Hs as 0 xs []) → f ds as = some (ds', d) →
  (∀ v vs', (∀ H, RpL K H Hs ds' 0 vs' []) → (∀ H, Rp K H Hs d 0 v []) → Q v (upd H l (.lst vs'))) → r (.ref l) xs H Q
def mMut (j : Nat) (f : List D → List D → Option (List D × D)) (ms : M (List Op)) : M Op := fun e0 => match e0[j]? with
  | some (some (.lst _, _)) => ((mFz ms).bind fun as e => match e[j]? with
    | some (some (.lst ds, 1)) => (match f ds as with
      | some (ds', d) => some (.ok (.val d 0) (e.set j (some (.lst ds', 1))))
      | none => none)
    | _ => none) e0
  | _ => none
section
variable {K : PySem.W.Frag} {e : En} {σ : L2.St} {H Hs : Hp} {fp : List Addr}
/-- a slot's own list is written -/
theorem Rel.write {j : Nat} {ds ds' : List D} {vs' : List V} (r : Rel K p e σ H Hs fp) (h : e[j]? = some (some (.lst ds, 1))) : ∃ a vs, σ[j]? = some (some (.ref a)) ∧ H a = some (.lst vs) ∧ Hs a = none ∧ (∀ H, RpL K H Hs ds 0 vs []) ∧
    ((∀ H, RpL K H Hs ds' 0 vs' []) → Rel K p (e.set j (some (.lst ds', 1))) σ (upd H a (.lst vs')) Hs fp ∧ Stp H Hs fp (upd H a (.lst vs')) Hs fp) := by
  have hi : j < e.length := (List.getElem?_eq_some_iff.mp h).1
  obtain ⟨x, s, f1, f2, f3, e1, e2, rfl, e4, put'⟩ := r.sl.lens j hi
  rw [h] at e1
  cases e1
  obtain ⟨v, rfl, a, vs, f, rfl, hl, hc⟩ := e4
  rcases hc with ⟨hz, _⟩ | ⟨_, h1, h2, rfl⟩
  · cases hz
  · have := hl.fp0
    subst this
    refine ⟨a, vs, e2, h1, h2, fun H => hl.still (Ex.refl _), fun hn => ⟨⟨ex_updO r.ex h2, ?_, r.nd, r.pn⟩, ?_⟩⟩
    · have n1 := List.nodup_append.mp r.nd
      have n2 := List.nodup_append.mp n1.2.1
      have := put' (upd H a (.lst vs')) Hs (some (.lst ds', 1)) (some (.ref a)) [a] (Ex.refl _) (fun b hb => ⟨?_, (r.disj b (by rcases hb with hb | hb <;> simp [hb])).1⟩) ⟨_, rfl, a, vs', [], rfl, hn _, .inr ⟨Nat.one_pos, upd_same, h2, rfl⟩⟩
      · rw [set_self e2] at this
        exact this
      · rw [upd_ne]
        rintro rfl
        rcases hb with hb | hb
        · exact n1.2.2 b hb b (by simp) rfl
        · exact n2.2.2 b (by simp) b hb rfl
    · exact ⟨Ex.refl _, fun b o hb n => by rw [upd_ne (fun z => n (by rw [z]; simp))]; exact hb, fun b h => .inl h, fun b hb => .inl hb, fun b h => upd_none h⟩
theorem Rel.lst {j k : Nat} {ds : List D} (r : Rel K p e σ H Hs fp) (h : e[j]? = some (some (.lst ds, k))) : ∃ a vs, σ[j]? = some (some (.ref a)) ∧ H a = some (.lst vs) := by
  have hi : j < e.length := (List.getElem?_eq_some_iff.mp h).1
  obtain ⟨x, s, f1, f2, f3, e1, e2, rfl, e4, put'⟩ := r.sl.lens j hi
  rw [h] at e1
  cases e1
  obtain ⟨v, rfl, hr⟩ := e4
  obtain ⟨a, vs, g, rfl, h1, _⟩ := sq_of_rp hr r.ex
  exact ⟨a, vs, e2, h1⟩
theorem t_mut {j : Nat} {f : List D → List D → Option (List D × D)} {r : V → List V → Hp → VK → Prop} {ms : M (List Op)} {σ : L2.St} {H : Hp} {Q : VK} (hr : MutS K r f) (q : tM K p W (mMut j f ms) σ H Q) : ∃ v, σ[j]? = some (some v) ∧ tyV K "list" v H ∧ tMA K p W ms σ H fun xs H2 => r v xs H2 Q := by
  obtain ⟨e, Hs, fp, rr, q⟩ := q
  unfold mMut at q
  split at q
  rotate_left
  · exact q.elim
  rename_i ds0 k0 h0
  obtain ⟨a, vs, hσ, hH⟩ := rr.lst h0
  refine ⟨.ref a, hσ, .inl ⟨rfl, vs, .inl (.inl hH)⟩, tMA_mono (t_fz rr q.bind) fun xs H' ⟨as, e2, Hs', fp', r2, hl, s, k⟩ => ?_⟩
  split at k
  rotate_left
  · exact k.elim
  rename_i ds hj
  split at k
  · rename_i ds' d hf
    obtain ⟨a', vs', hσ', hH', hn, hds, wr⟩ := r2.write (ds' := ds') (vs' := []) hj
    rw [hσ] at hσ'
    cases hσ'
    refine hr a vs' ds xs as H' Hs' ds' d Q r2.ex hH' hds hl hf fun v vs2 h2 hv => ?_
    obtain ⟨a', vs3, hσ', _, _, _, wr⟩ := r2.write (ds' := ds') (vs' := vs2) hj
    rw [hσ] at hσ'
    cases hσ'
    obtain ⟨r3, s3⟩ := wr h2
    exact k v _ Hs' fp' ⟨fp', [], by simp, r3, hv _, r3.nd⟩ (s.trans s3)
  · exact k.elim
end
theorem re_mut {name : Str} {id : String} {j : Nat} {x : Str} {y : Expr} {ys : List Expr} {px apos cpos : Pos} {r : V → List V → Hp → VK → Prop} {f : List D → List D → Option (List D × D)} {ms : M (List Op)} (slot : Slot "list" name id) (hty : typeOf (.builtin id) = pure (.type "method_descriptor")) (hm : MtR X id r) (hr : MutS X.K r f)
    (ha : RA X p W (y :: ys) ms) (ho : PE X (.Name x px) (tVar j) := by exact pv _) (hbase : attributeBase (.Name x px) name X.env (eval (.Name x px) X.env) = eval (.Name x px) X.env := by rfl) (hline : (apos.endLine == cpos.line) = true := by rfl)
    (hfew : ((backTo cpos (starEach (y :: ys) X.env)).all (fun x => !x.1) && (backToKw cpos (keywordEach [] X.env)).all (fun x => x.1.isSome)
      && decide ((y :: ys).length + ([] : List Keyword).length + (if ([] : List Keyword).isEmpty then 0 else 1) < 30)) = true := by rfl)
    (he : starEach (y :: ys) X.env = (false, eval y X.env) :: starEach ys X.env := by rfl) (hpl : (backTo cpos (starEach ys X.env)).any (·.1) = false := by rfl) : RE X p W (.Call (.Attribute (.Name x px) name apos) (y :: ys) [] cpos) (mMut j f ms) :=
  ⟨PE_imp (pe_bm PySem.F.plainAttrs_list slot hty hm ho ha.pa hbase hfew hline he hpl) fun σ H Q q => by
    obtain ⟨v, h1, h2, h3⟩ := t_mut hr q
    exact ⟨v, h1, h2, h3⟩⟩
theorem re_mut0 {name : Str} {id : String} {j : Nat} {x : Str} {px apos cpos : Pos} {r : V → List V → Hp → VK → Prop} {f : List D → List D → Option (List D × D)} (slot : Slot "list" name id) (hty : typeOf (.builtin id) = pure (.type "method_descriptor")) (hm : MtR X id r) (hr : MutS X.K r f)
    (ho : PE X (.Name x px) (tVar j) := by exact pv _) (hbase : attributeBase (.Name x px) name X.env (eval (.Name x px) X.env) = eval (.Name x px) X.env := by rfl) (hline : (apos.endLine == cpos.line) = true := by rfl) : RE X p W (.Call (.Attribute (.Name x px) name apos) [] [] cpos) (mMut j f mNil) :=
  ⟨PE_imp (pe_bm0 PySem.F.plainAttrs_list slot hty hm ho hbase hline) fun σ H Q q => by
    obtain ⟨v, h1, h2, h3⟩ := t_mut hr q
    exact ⟨v, h1, h2, tMA_nil h3⟩⟩
def fAppend : List D → List D → Option (List D × D)
  | ds, [d] => if ds.length < sizeLine then some (ds ++ [d], .non) else none
  | _, _ => none
theorem m_append {K : PySem.W.Frag} : MutS K rAppend fAppend := fun l vs ds xs as H Hs ds' d Q ex hH hds hl hf k => by
  unfold fAppend at hf
  split at hf
  · rename_i ds0 d0 _
    split at hf
    · rename_i hlen
      cases hf
      obtain ⟨v, r, hxs, h1, h2⟩ := (hl H).uncons
      have hr : r = [] := h2.1
      subst hr
      subst hxs
      refine ⟨l, vs, v, rfl, rfl, hH, by rw [← (hds H).len]; exact hlen, k .non _ (fun H' => ?_) fun _ => ⟨rfl, rfl⟩⟩
      simpa using (hds H').append (RpL.one (h1.still (Ex.refl _)))
    · cases hf
  · cases hf
theorem re_append {j : Nat} {x : Str} {y : Expr} {px apos cpos : Pos} {m : M Op} (ha : RE X p W y m) (ho : PE X (.Name x px) (tVar j) := by exact pv _) (hbase : attributeBase (.Name x px) "append" X.env (eval (.Name x px) X.env) = eval (.Name x px) X.env := by rfl) (hline : (apos.endLine == cpos.line) = true := by rfl)
    (hfew : ((backTo cpos (starEach [y] X.env)).all (fun x => !x.1) && (backToKw cpos (keywordEach [] X.env)).all (fun x => x.1.isSome)
      && decide ([y].length + ([] : List Keyword).length + (if ([] : List Keyword).isEmpty then 0 else 1) < 30)) = true := by rfl)
    (hs : starEach [y] X.env = (false, eval y X.env) :: starEach [] X.env := by rfl) (hpl : (backTo cpos (starEach [] X.env)).any (·.1) = false := by rfl) : RE X p W (.Call (.Attribute (.Name x px) "append" apos) [y] [] cpos) (mMut j fAppend (mCons m mNil)) :=
  re_mut PySem.F.slot_list_append PySem.F.type_list_append mt_append m_append (ra_cons ha ra_nil hs) ho hbase hline hfew hs hpl
end
end Rf
/-! Rf, part I: built-ins by name, texts, walks over two things, stores into lists. -/
namespace Rf
open PySem PySem.Spec PyProof.Rows L2
open Evl (Ex)
section
variable {X : Cx} {p : Pins} {W : WX}
/-! ### built-ins -/
theorem re_cb {x : Str} {id : String} {y : Expr} {ys : List Expr} {pp pos : Pos} {r : List V → Hp → VK → Prop} {lim : Bool} {f : List D → Option (D × Nat)} {ms : M (List Op)} (hc : CallR X (.builtin id) r) (hr : CallS X.K r lim f) (hg : Gl X x) (hm : X.mg x = none) (hv : bootBuiltins x = some (.builtin id)) (ha : RA X p W (y :: ys) ms)
    (hn : x ≠ "__name__" := by decide) (hdb : (x == ("__debug__" : Str)) = false := by decide) (he : starEach (y :: ys) X.env = (false, eval y X.env) :: starEach ys X.env := by rfl) (hpl : (backTo pos (starEach ys X.env)).any (·.1) = false := by rfl) : RE X p W (.Call (.Name x pp) (y :: ys) [] pos) (mF lim f ms) :=
  ⟨PE_imp (pe_callB hc hg hm hv ha.pa hn hdb he hpl) fun σ H Q q => t_cb hr q⟩
theorem re_ct {x : Str} {T : String} {y : Expr} {ys : List Expr} {pp pos : Pos} {r : List V → Hp → VK → Prop} {lim : Bool} {f : List D → Option (D × Nat)} {ms : M (List Op)} (hc : CallR X (.type T) r) (hr : CallS X.K r lim f) (hg : Gl X x) (hm : X.mg x = none) (hv : bootBuiltins x = some (.type T)) (ha : RA X p W (y :: ys) ms)
    (hn : x ≠ "__name__" := by decide) (hdb : (x == ("__debug__" : Str)) = false := by decide) (he : starEach (y :: ys) X.env = (false, eval y X.env) :: starEach ys X.env := by rfl) (hpl : (backTo pos (starEach ys X.env)).any (·.1) = false := by rfl) : RE X p W (.Call (.Name x pp) (y :: ys) [] pos) (mF lim f ms) :=
  ⟨PE_imp (pe_callTy hc hg hm hv ha.pa hn hdb he hpl) fun σ H Q q => t_cb hr q⟩
end
def dLen : List D → Option (D × Nat)
  | [.lst ds] => some (.int ds.length, 0)
  | [.kls ds] => some (.int ds.length, 0)
  | [.tup ds] => some (.int ds.length, 0)
  | [.str x] => if x.length ≤ sizeLine then some (.int x.length, 0) else none
  | _ => none
section
variable {K : PySem.W.Frag}
theorem s_len : CallS K (fun xs H Q => ∃ x n, xs = [x] ∧ LenV K x H n ∧ Q (.int n) H) false dLen := fun xs H Hs ds z Q ex hp hf o => by
  unfold dLen at hf
  split at hf
  · cases hf
    cases hp with
    | cons h1 h2 =>
      cases h2
      obtain ⟨a, vs, rfl, q1, q2⟩ := v0_lst ex h1
      exact ⟨_, _, rfl, .inl ⟨vs, .inl (.inl q1), q2.len⟩, out_int ex o⟩
  · cases hf
    cases hp with
    | cons h1 h2 =>
      cases h2
      obtain ⟨a, vs, rfl, q1, q2⟩ := v1_kls ex h1
      exact ⟨_, _, rfl, .inl ⟨vs, q1, (q2 H).len⟩, out_int ex o⟩
  · cases hf
    cases hp with
    | cons h1 h2 =>
      cases h2
      obtain ⟨a, vs, rfl, q1, q2⟩ := v0_tup ex h1
      exact ⟨_, _, rfl, .inr ⟨vs, .inl (.inl q1), q2.len⟩, out_int ex o⟩
  · split at hf
    · rename_i hl
      cases hf
      cases hp with
      | cons h1 h2 =>
        cases h2
        cases v1_str h1
        exact ⟨_, _, rfl, ⟨hl, rfl⟩, out_int ex o⟩
    · cases hf
  · cases hf
def dAbs : List D → Option (D × Nat)
  | [.int i] => some (.int (if i < 0 then -i else i), 0)
  | _ => none
theorem s_abs : CallS K (fun xs H Q => ∃ i, xs = [.int i] ∧ Q (.int (if i < 0 then -i else i)) H) true dAbs := fun xs H Hs ds z Q ex hp hf o => by
  unfold dAbs at hf
  split at hf
  · cases hf
    cases hp with
    | cons h1 h2 =>
      cases h2
      cases v1_int h1
      exact ⟨_, rfl, out_int ex o⟩
  · cases hf
def dMin2 : List D → Option (D × Nat)
  | [.int i, .int j] => some (.int (if j < i then j else i), 0)
  | _ => none
theorem s_min2 : CallS K (fun xs H Q => ∃ i j, xs = [.int i, .int j] ∧ Q (.int (if j < i then j else i)) H) true dMin2 := fun xs H Hs ds z Q ex hp hf o => by
  unfold dMin2 at hf
  split at hf
  · cases hf
    cases hp with
    | cons h1 h2 =>
      cases h2 with
      | cons h2 h3 =>
        cases h3
        cases v1_int h1
        cases v1_int h2
        exact ⟨_, _, rfl, out_int ex o⟩
  · cases hf
def dMax2 : List D → Option (D × Nat)
  | [.int i, .int j] => some (.int (if j > i then j else i), 0)
  | _ => none
theorem s_max2 : CallS K (fun xs H Q => ∃ i j, xs = [.int i, .int j] ∧ Q (.int (if j > i then j else i)) H) true dMax2 := fun xs H Hs ds z Q ex hp hf o => by
  unfold dMax2 at hf
  split at hf
  · cases hf
    cases hp with
    | cons h1 h2 =>
      cases h2 with
      | cons h2 h3 =>
        cases h3
        cases v1_int h1
        cases v1_int h2
        exact ⟨_, _, rfl, out_int ex o⟩
  · cases hf
def dInt : List D → Option (D × Nat)
  | [.int i] => some (.int i, 0)
  | [.bl b] => some (.int (if b then 1 else 0), 0)
  | [.str x] => if x.length ≤ 640 then (PySem.intText? x).map fun n => (.int n, 0) else none
  | _ => none
def rIntD : List V → Hp → VK → Prop := fun xs H Q => ((∃ i, xs = [.int i] ∧ Q (.int i) H) ∨ ∃ k, xs = [.bl k] ∧ Q (.int (if k then 1 else 0)) H) ∨ ∃ a n, xs = [.str a] ∧ PySem.intText? a = some n ∧ a.length ≤ 640 ∧ Q (.int n) H
theorem callR_or {X : Cx} {f : Value} {r r' : List V → Hp → VK → Prop} (h : CallR X f r) (h' : CallR X f r') : CallR X f (fun xs H Q => r xs H Q ∨ r' xs H Q) := fun pins s σ H xs us Q I rv q => by
  rcases q with q | q
  · exact h pins s σ H xs us Q I rv q
  · exact h' pins s σ H xs us Q I rv q
theorem call_intD {X : Cx} : CallR X (.type "int") rIntD := callR_or call_int1 call_int_str
theorem s_int : CallS K rIntD true dInt := fun xs H Hs ds z Q ex hp hf o => by
  unfold dInt at hf
  split at hf
  · cases hf
    cases hp with
    | cons h1 h2 =>
      cases h2
      cases v1_int h1
      exact .inl (.inl ⟨_, rfl, out_int ex o⟩)
  · cases hf
    cases hp with
    | cons h1 h2 =>
      cases h2
      cases v1_bl h1
      exact .inl (.inr ⟨_, rfl, out_int ex o⟩)
  · split at hf
    · rename_i hl
      obtain ⟨n, hn, rfl⟩ := Option.map_eq_some_iff.mp hf
      cases hp with
      | cons h1 h2 =>
        cases h2
        cases v1_str h1
        exact .inr ⟨_, n, rfl, hn, hl, out_int ex o⟩
    · cases hf
  · cases hf
def dStr : List D → Option (D × Nat)
  | [.int i] => if fitB 1000 i = true then some (.str (toString i), 0) else none
  | _ => none
theorem s_str : CallS K (fun xs H Q => ∃ i, xs = [.int i] ∧ i.natAbs.log2 < 1920 ∧ Q (.str (toString i)) H) true dStr := fun xs H Hs ds z Q ex hp hf o => by
  unfold dStr at hf
  split at hf
  · split at hf
    · rename_i hb
      cases hf
      cases hp with
      | cons h1 h2 =>
        cases h2
        cases v1_int h1
        exact ⟨_, rfl, by have := fitW (by decide) hb; omega, out_str ex o⟩
    · cases hf
  · cases hf
def asBls : List D → Option (List Bool)
  | [] => some []
  | .bl b :: ds => (asBls ds).map (b :: ·)
  | _ => none
def asInts : List D → Option (List Int)
  | [] => some []
  | .int b :: ds => (asInts ds).map (b :: ·)
  | _ => none
def asStrs : List D → Option (List Str)
  | [] => some []
  | .str b :: ds => (asStrs ds).map (b :: ·)
  | _ => none
theorem bls_map (bs : List Bool) : asBls (bs.map D.bl) = some bs := by induction bs with
  | nil => rfl
  | cons b r ih => simp [asBls, ih]
theorem asInts_map (bs : List Int) : asInts (bs.map D.int) = some bs := by induction bs with
  | nil => rfl
  | cons b r ih => simp [asInts, ih]
theorem asStrs_map (bs : List Str) : asStrs (bs.map D.str) = some bs := by induction bs with
  | nil => rfl
  | cons b r ih => simp [asStrs, ih]
theorem bls_eq : ∀ {ds : List D} {bs : List Bool}, asBls ds = some bs → ds = bs.map D.bl
  | [], _, h => by cases h; rfl
  | d :: ds, bs, h => by
    cases d with
    | bl b => obtain ⟨r, hr, rfl⟩ := Option.map_eq_some_iff.mp (show (asBls ds).map (b :: ·) = some bs from h); rw [bls_eq hr]; rfl
    | _ => cases h
theorem ints_eq : ∀ {ds : List D} {bs : List Int}, asInts ds = some bs → ds = bs.map D.int
  | [], _, h => by cases h; rfl
  | d :: ds, bs, h => by
    cases d with
    | int b => obtain ⟨r, hr, rfl⟩ := Option.map_eq_some_iff.mp (show (asInts ds).map (b :: ·) = some bs from h); rw [ints_eq hr]; rfl
    | _ => cases h
theorem strs_eq : ∀ {ds : List D} {bs : List Str}, asStrs ds = some bs → ds = bs.map D.str
  | [], _, h => by cases h; rfl
  | d :: ds, bs, h => by
    cases d with
    | str b => obtain ⟨r, hr, rfl⟩ := Option.map_eq_some_iff.mp (show (asStrs ds).map (b :: ·) = some bs from h); rw [strs_eq hr]; rfl
    | _ => cases h
theorem rp_bls_inv {H Hs : Hp} : ∀ {ns : List Bool} {vs : List V}, RpL K H Hs (ns.map D.bl) 0 vs [] → vs = ns.map V.bl
  | [], _, h => h.1
  | n :: r, _, h => by
    obtain ⟨v, w, rfl, h1, h2⟩ := RpL.uncons h
    rw [rp_bls_inv h2, h1.1]; rfl
def dAll : List D → Option (D × Nat)
  | [.lst ds] => (asBls ds).map fun bs => (.bl (bs.all id), 0)
  | _ => none
def dAny : List D → Option (D × Nat)
  | [.lst ds] => (asBls ds).map fun bs => (.bl (bs.any id), 0)
  | _ => none
def dSum : List D → Option (D × Nat)
  | [.lst ds] => (asInts ds).map fun bs => (.int bs.sum, 0)
  | _ => none
theorem s_all : CallS K (rAll K) true dAll := fun xs H Hs ds z Q ex hp hf o => by
  unfold dAll at hf
  split at hf
  · obtain ⟨bs, hb, rfl⟩ := Option.map_eq_some_iff.mp hf
    cases bls_eq hb
    cases hp with
    | cons h1 h2 =>
      cases h2
      obtain ⟨a, vs, rfl, q1, q2⟩ := v1_lst ex h1
      cases rp_bls_inv (q2 H)
      exact ⟨a, bs, rfl, .inl (.inl q1), out_bl ex o⟩
  · cases hf
theorem s_any : CallS K (rAny K) true dAny := fun xs H Hs ds z Q ex hp hf o => by
  unfold dAny at hf
  split at hf
  · obtain ⟨bs, hb, rfl⟩ := Option.map_eq_some_iff.mp hf
    cases bls_eq hb
    cases hp with
    | cons h1 h2 =>
      cases h2
      obtain ⟨a, vs, rfl, q1, q2⟩ := v1_lst ex h1
      cases rp_bls_inv (q2 H)
      exact ⟨a, bs, rfl, .inl (.inl q1), out_bl ex o⟩
  · cases hf
theorem s_sum : CallS K (rSum K) true dSum := fun xs H Hs ds z Q ex hp hf o => by
  unfold dSum at hf
  split at hf
  · obtain ⟨bs, hb, rfl⟩ := Option.map_eq_some_iff.mp hf
    cases ints_eq hb
    cases hp with
    | cons h1 h2 =>
      cases h2
      obtain ⟨a, vs, rfl, q1, q2⟩ := v1_lst ex h1
      cases rp_ints_inv (q2 H)
      exact ⟨a, bs, rfl, .inl (.inl q1), out_int ex o⟩
  · cases hf
def dList : List D → Option (D × Nat)
  | [.lst ds] => some (.lst ds, 1)
  | [.kls ds] => some (.lst ds, 1)
  | [.tup ds] => some (.lst ds, 1)
  | _ => none
theorem s_list : CallS K (fun xs H Q => ∃ p ys, xs = [.ref p] ∧ (SqL K H p ys ∨ SqT K H p ys) ∧ ∀ l, H l = none → Q (.ref l) (upd H l (.lst ys))) true dList := fun xs H Hs ds z Q ex hp hf o => by
  unfold dList at hf
  split at hf
  · cases hf
    cases hp with
    | cons h1 h2 =>
      cases h2
      obtain ⟨a, vs, rfl, q1, q2⟩ := v1_lst ex h1
      exact ⟨a, vs, rfl, .inl (.inl (.inl q1)), out_lst ex q2 o⟩
  · cases hf
    cases hp with
    | cons h1 h2 =>
      cases h2
      obtain ⟨a, vs, rfl, q1, q2⟩ := v1_kls ex h1
      exact ⟨a, vs, rfl, .inl q1, out_lst ex q2 o⟩
  · cases hf
    cases hp with
    | cons h1 h2 =>
      cases h2
      obtain ⟨a, vs, rfl, q1, q2⟩ := v1_tup ex h1
      exact ⟨a, vs, rfl, .inr (.inl (.inl q1)), out_lst ex q2 o⟩
  · cases hf
end
/-! ### isinstance -/
def tyD : D → Option String
  | .non => some "NoneType" | .bl _ => some "bool" | .int _ => some "int" | .str _ => some "str"
  | .lst _ => some "list" | .tup _ => some "tuple" | _ => none
def isaD (a b : String) : Bool := a == b || (a == "bool" && b == "int")
theorem kit_isa {K : PySem.W.Frag} {d : D} {a b : String} (ha : tyD d = some a) (hb : b ∈ ["list", "tuple", "bool", "int", "str"]) : PySem.W.kitOne K (.type a) (.type b) = some (isaD a b) := by
  have : kitB a b = some (isaD a b) := by
    have h1 : a ∈ ["NoneType", "bool", "int", "str", "list", "tuple"] := by
      cases d <;> simp [tyD] at ha <;> subst ha <;> decide
    revert h1 hb
    have : ∀ a ∈ ["NoneType", "bool", "int", "str", "list", "tuple"], ∀ b ∈ ["list", "tuple", "bool", "int", "str"], kitB a b = some (isaD a b) := by decide +kernel
    exact fun hb ha => this a ha b hb
  exact kit_ty this
theorem ty_of {K : PySem.W.Frag} {H Hs : Hp} {lim : Bool} {d : D} {v : V} {a : String} (ex : Ex Hs H) (h : V1 K H Hs lim d v) (ha : tyD d = some a) : TyX K H v (.type a) := by
  cases d with
  | non => cases v1_non h; cases ha; exact .base .non
  | bl b => cases v1_bl h; cases ha; exact .base (.bl b)
  | int i => cases v1_int h; cases ha; exact .base (.int i)
  | str x => cases v1_str h; cases ha; exact .base (.str x)
  | lst ds => obtain ⟨a, vs, rfl, q1, _⟩ := v0_lst ex h; cases ha; exact .base (.lst q1)
  | tup ds => obtain ⟨a, vs, rfl, q1, _⟩ := v0_tup ex h; cases ha; exact .base (.tup q1)
  | _ => cases ha
theorem v1_upd {K : PySem.W.Frag} {H Hs : Hp} {lim : Bool} {d : D} {v : V} {l : Addr} {o : HO} (h : V1 K H Hs lim d v) (hl : H l = none) : V1 K (upd H l o) Hs lim d v := by
  obtain ⟨k, f, hk, hr⟩ := h
  exact ⟨k, f, hk, hr.frame (Ex.refl _) fun a ha => ⟨by
    obtain ⟨_, ⟨o, ho, _⟩, _⟩ := hr.own a ha
    rw [upd_ne (ne_of_none ho hl)], (hr.own a ha).1⟩⟩
def dIsi (T : String) : List D → Option (D × Nat)
  | [d] => (tyD d).map fun a => (.bl (isaD a T), 0)
  | _ => none
def dIsi2 (T U : String) : List D → Option (D × Nat)
  | [d] => (tyD d).map fun a => (.bl (isaD a T || isaD a U), 0)
  | _ => none
section
variable {X : Cx} {p : Pins} {W : WX}
theorem re_isi {y : Expr} {T : Str} {TT : String} {pp pT pos : Pos} {m : M Op} (hg : Gl X "isinstance") (hm : X.mg "isinstance" = none) (ha : RE X p W y m) (hgT : Gl X T) (hmT : X.mg T = none) (hv : bootBuiltins T = some (.type TT)) (hT : TT ∈ ["list", "tuple", "bool", "int", "str"] := by decide) (hnT : T ≠ "__name__" := by decide) (hdT : (T == ("__debug__" : Str)) = false := by decide)
    (he : starEach [y, .Name T pT] X.env = (false, eval y X.env) :: starEach [.Name T pT] X.env := by rfl) (he2 : starEach [.Name T pT] X.env = (false, eval (.Name T pT) X.env) :: starEach [] X.env := by rfl) (hpl : (backTo pos (starEach [.Name T pT] X.env)).any (·.1) = false := by rfl) :
    RE X p W (.Call (.Name "isinstance" pp) [y, .Name T pT] [] pos) (mF false (dIsi TT) (mCons m mNil)) :=
  ⟨PE_imp (pe_callB call_isi hg hm PyProof.Rows.boot_isinstance (pa_cons ha.pe (pa_cons (pe_bltn (v := .ty TT) hgT hmT hv rfl hnT hdT) pa_nil he2) he) (by decide) (by decide) he hpl) fun σ H Q q => (tMA_cons (tM_F q)).mono fun x H1 q1 => by
    obtain ⟨Hs, ds, z, ex, hp, hf, o⟩ := tMA_nil q1
    cases hp with
    | cons h1 h2 =>
      cases h2
      obtain ⟨a, hd, rfl⟩ := Option.map_eq_some_iff.mp (show (tyD _).map (fun a => (D.bl (isaD a TT), 0)) = some z from hf)
      exact ⟨x, .ty TT, .type a, .type TT, _, rfl, .ty TT, ty_of ex h1 hd, kit_isa hd hT, out_bl ex o⟩⟩
theorem re_isi2 {y : Expr} {T U : Str} {TT UU : String} {pp pT pU pos pt : Pos} {kk : Nat} {m : M Op} (hg : Gl X "isinstance") (hm : X.mg "isinstance" = none) (ha : RE X p W y m) (hgT : Gl X T) (hmT : X.mg T = none) (hv : bootBuiltins T = some (.type TT)) (hgU : Gl X U) (hmU : X.mg U = none) (hvU : bootBuiltins U = some (.type UU)) (hT : TT ∈ ["list", "tuple", "bool", "int", "str"] := by decide) (hU : UU ∈ ["list", "tuple", "bool", "int", "str"] := by decide)
    (hnT : T ≠ "__name__" := by decide) (hdT : (T == ("__debug__" : Str)) = false := by decide) (hnU : U ≠ "__name__" := by decide) (hdU : (U == ("__debug__" : Str)) = false := by decide)
    (he : starEach [y, .Tuple [.Name T pT, .Name U pU] kk pt] X.env = (false, eval y X.env) :: starEach [.Tuple [.Name T pT, .Name U pU] kk pt] X.env := by rfl) (he2 : starEach [.Tuple [.Name T pT, .Name U pU] kk pt] X.env = (false, eval (.Tuple [.Name T pT, .Name U pU] kk pt) X.env) :: starEach [] X.env := by rfl)
    (he3 : starEach [.Name T pT, .Name U pU] X.env = (false, eval (.Name T pT) X.env) :: starEach [.Name U pU] X.env := by rfl) (he4 : starEach [.Name U pU] X.env = (false, eval (.Name U pU) X.env) :: starEach [] X.env := by rfl) (hpl : (backTo pos (starEach [.Tuple [.Name T pT, .Name U pU] kk pt] X.env)).any (·.1) = false := by rfl) :
    RE X p W (.Call (.Name "isinstance" pp) [y, .Tuple [.Name T pT, .Name U pU] kk pt] [] pos) (mF false (dIsi2 TT UU) (mCons m mNil)) :=
  ⟨PE_imp (pe_callB call_isiT hg hm PyProof.Rows.boot_isinstance (pa_cons ha.pe (pa_cons (pe_tup (pa_cons (pe_bltn (v := .ty TT) hgT hmT hv rfl hnT hdT) (pa_cons (pe_bltn (v := .ty UU) hgU hmU hvU rfl hnU hdU) pa_nil he4) he3)) pa_nil he2) he) (by decide) (by decide) he hpl) fun σ H Q q => (tMA_cons (tM_F q)).mono fun x H1 q1 => by
    obtain ⟨Hs, ds, z, ex, hp, hf, o⟩ := tMA_nil q1
    cases hp with
    | cons h1 h2 =>
      cases h2
      obtain ⟨a, hd, rfl⟩ := Option.map_eq_some_iff.mp (show (tyD _).map (fun a => (D.bl (isaD a TT || isaD a UU), 0)) = some z from hf)
      refine ⟨by show 2 ≤ sizeLine; decide, fun l hl => ?_⟩
      have ex' := ex_updO (p := l) (o := .tup [.ty TT, .ty UU]) ex (Evl.fresh_back ex hl)
      have h1' := v1_upd (o := .tup [.ty TT, .ty UU]) h1 hl
      refine ⟨x, l, [.ty TT, .ty UU], .type a, [.type TT, .type UU], isaD a TT || isaD a UU, rfl, upd_same, .cons (.ty TT) (.cons (.ty UU) .nil), ty_of ex' h1' hd, ?_, ?_⟩
      · exact kitAny_cons (kit_isa hd hT) (fun hb => kitAny_cons (kit_isa hd hU) (fun hb2 => by rw [hb, hb2]; exact kitAny_nil) fun hb2 => by rw [hb2]; simp) fun hb => by rw [hb]; simp
      · refine o (.bl _) (upd H1 l (.tup [.ty TT, .ty UU])) Hs [] ex' ⟨rfl, rfl⟩ (by simp) ⟨Ex.refl _, fun b u hb _ => by rw [upd_ne (ne_of_none hb hl)]; exact hb, fun b h => .inl h, (fun b hb => nomatch hb), fun b h => upd_none h⟩⟩
/-! ### texts -/
/-- a method of a text with one argument -/
def mM1 (f : List D → Option (D × Nat)) (m n : M Op) : M Op := m.bind fun o e => match pk e (frz o) with
  | some (.str s, _) => (n.bind fun o2 e => oK (((pkL true e [frz o2]).bind fun ds => f (.str s :: ds)).map fun r => Op.val r.1 r.2) e) e
  | _ => none
def MtS (K : PySem.W.Frag) (r : V → List V → Hp → VK → Prop) (f : List D → Option (D × Nat)) : Prop := ∀ s y H Hs b z Q, Ex Hs H → V1 K H Hs true b y → f [.str s, b] = some z → Out K H Hs z Q → r (.str s) [y] H Q
theorem t_m1 {f : List D → Option (D × Nat)} {m n : M Op} {r : V → List V → Hp → VK → Prop} {σ : L2.St} {H : Hp} {Q : VK} (hr : MtS X.K r f) (q : tM X.K p W (mM1 f m n) σ H Q) : tM1 r (tM X.K p W m) (tM X.K p W n) σ H Q := by
  obtain ⟨e, Hs, fp, rr, q⟩ := q
  refine tM.then' (Q := fun x H1 => (∃ a, x = .str a) ∧ tM X.K p W n σ H1 fun y H2 => r x [y] H2 Q) rr q fun o e' v H' Hs' fp' k r' ro s => ?_
  split at k
  · rename_i str j hpk
    obtain ⟨f', hr', _⟩ := pk_rp r' ro hpk
    obtain ⟨rfl, _⟩ := hr'
    refine ⟨⟨_, rfl⟩, tM.then' r' k fun o2 e2 y H2 Hs2 fp2 k2 r2 ro2 s2 => ?_⟩
    obtain ⟨w, hw, k3⟩ := kM_oK k2
    obtain ⟨z, hz, rfl⟩ := Option.map_eq_some_iff.mp hw
    obtain ⟨ds, hd, hz⟩ := Option.bind_eq_some_iff.mp hz
    have hp := pkL_rp r2 (.cons ro2 .nil) hd
    cases hp with
    | cons h1 h2 =>
      cases h2
      exact hr _ _ _ _ _ _ _ r2.ex h1 hz fun v H3 Hs3 g ex hg nd st => by
        obtain ⟨q1, q2⟩ := Out.ro r2 ex hg nd st
        exact k3 v H3 Hs3 _ q1 ((s.trans s2).trans q2)
  · exact k.elim
def joinB (a : Str) (ys : List Str) : Bool := decide ((ys.map (·.length)).sum + ys.length * a.length ≤ 16777216)
def dJoin : List D → Option (D × Nat)
  | [.str a, .lst ds] => (asStrs ds).bind fun ys => if joinB a ys = true then some (.str (Txt.join a ys), 0) else none
  | _ => none
theorem s_join : MtS X.K (fun x xs H Q => ∃ a p, ∃ ys : List Str, x = .str a ∧ xs = [.ref p] ∧ (SqL X.K H p (ys.map V.str) ∨ SqT X.K H p (ys.map V.str)) ∧ (ys.map (·.length)).sum + ys.length * a.length ≤ 16777216 ∧ Q (.str (Txt.join a ys)) H) dJoin := fun s y H Hs b z Q ex hy hf o => by
  unfold dJoin at hf
  split at hf
  · rename_i a ds heq; cases heq
    obtain ⟨ys, hs, hf2⟩ := Option.bind_eq_some_iff.mp hf
    cases strs_eq hs
    split at hf2
    · rename_i hb; cases hf2
      obtain ⟨a, vs, rfl, q1, q2⟩ := v1_lst ex hy
      cases rp_strs_inv (q2 H)
      exact ⟨_, a, ys, rfl, rfl, .inl (.inl (.inl q1)), of_decide_eq_true hb, out_str ex o⟩
    · cases hf2
  · cases hf
theorem re_join {o y : Expr} {m n : M Op} {apos pos : Pos} (ho : RE X p W o m) (hy : RE X p W y n) (hs : starEach [y] X.env = [(false, eval y X.env)] := by rfl) (hbase : attributeBase o "join" X.env (eval o X.env) = eval o X.env := by rfl) (hline : (apos.endLine == pos.line) = true := by rfl) : RE X p W (.Call (.Attribute o "join" apos) [y] [] pos) (mM1 dJoin m n) :=
  ⟨PE_imp (pe_join ho.pe hy.pe hs hbase hline) fun σ H Q q => t_m1 s_join q⟩
def dSplit : List D → Option (D × Nat)
  | [.str a, .str b] => if (b.length == 0) = false ∧ a.length + 2 ≤ sizeLine then some (.lst ((Txt.split a b).map D.str), 1) else none
  | _ => none
theorem s_split : MtS X.K (fun x xs H Q => ∃ a b, x = .str a ∧ xs = [.str b] ∧ (b.length == 0) = false ∧ a.length + 2 ≤ sizeLine ∧ rNewStrs (Txt.split a b) H Q) dSplit := fun s y H Hs b z Q ex hy hf o => by
  unfold dSplit at hf
  split at hf
  · rename_i a ds heq; cases heq
    split at hf
    · rename_i hb; cases hf
      cases v1_str hy
      exact ⟨_, _, rfl, rfl, hb.1, hb.2, out_lst ex (fun H => rp_strs _) o⟩
    · cases hf
  · cases hf
theorem re_split {o y : Expr} {m n : M Op} {apos pos : Pos} (ho : RE X p W o m) (hy : RE X p W y n) (hs : starEach [y] X.env = [(false, eval y X.env)] := by rfl) (hbase : attributeBase o "split" X.env (eval o X.env) = eval o X.env := by rfl) (hline : (apos.endLine == pos.line) = true := by rfl) : RE X p W (.Call (.Attribute o "split" apos) [y] [] pos) (mM1 dSplit m n) :=
  ⟨PE_imp (pe_split ho.pe hy.pe hs hbase hline) fun σ H Q q => t_m1 s_split q⟩
/-! f-strings -/
def dFmt : List D → Option (D × Nat)
  | [.int i] => if fitB 1000 i = true then some (.str (toString i), 0) else none
  | [.str y] => if y.length ≤ sizeLine then some (.str y, 0) else none
  | _ => none
theorem re_fmt {y : Expr} {m : M Op} {pos : Pos} (h : RE X p W y m) : RE X p W (.FormattedValue y (-1) none pos) (mF true dFmt (mCons m mNil)) := ⟨PE_imp (pe_fmt h.pe) fun σ H Q q => (tMA_cons (tM_F q)).mono fun x H1 q1 => by
  obtain ⟨Hs, ds, z, ex, hp, hf, o⟩ := tMA_nil q1
  cases hp with
  | cons h1 h2 =>
    cases h2
    unfold dFmt at hf
    split at hf
    · rename_i i heq; cases heq
      split at hf
      · rename_i hb; cases hf
        exact .inr ⟨_, v1_int h1, by have := fitW (by decide) hb; omega, out_str ex o⟩
      · cases hf
    · rename_i i heq; cases heq
      split at hf
      · rename_i hb; cases hf
        exact .inl ⟨_, v1_str h1, hb, out_str ex o⟩
      · cases hf
    · cases hf⟩
def mJs : List (M Op) → Str → M Op
  | [], acc => fun e => some (.ok (.val (.str acc) 0) e)
  | m :: ms, acc => m.bind fun o e => match o with
    | .val (.str y) _ => if (acc ++ y).length ≤ sizeLine then mJs ms (acc ++ y) e else none
    | _ => none
inductive RJ (X : Cx) (p : Pins) (W : WX) : List Expr → List (M Op) → Prop where
  | nil : RJ X p W [] []
  | cons {e : Expr} {m : M Op} {es : List Expr} {ms : List (M Op)} (h : RE X p W e m) (r : RJ X p W es ms) : RJ X p W (e :: es) (m :: ms)
theorem RJ.pj {es : List Expr} {ms : List (M Op)} (h : RJ X p W es ms) : PJ X es (ms.map (tM X.K p W)) := by
  induction h with
  | nil => exact .nil
  | cons h _ ih => exact .cons h.pe ih
theorem t_js {K : PySem.W.Frag} : ∀ {ms : List (M Op)} {acc : Str} {σ : L2.St} {H : Hp} {Q : VK}, tM K p W (mJs ms acc) σ H Q → tJs (ms.map (tM K p W)) acc σ H fun out H1 => Q (.str out) H1
  | [], acc, σ, H, Q, q => by
    obtain ⟨e, Hs, fp, r, q⟩ := q
    exact q (.str acc) H Hs fp ⟨fp, [], by simp, r, ⟨rfl, rfl⟩, r.nd⟩ (Stp.refl _ _ _)
  | m :: ms, acc, σ, H, Q, q => by
    obtain ⟨e, Hs, fp, r, q⟩ := q
    refine tM.then' (Q := fun x H1 => ∃ y : Str, x = .str y ∧ (acc ++ y).length ≤ sizeLine ∧ tJs (ms.map (tM K p W)) (acc ++ y) σ H1 fun out H1 => Q (.str out) H1) r q fun o e' v H' Hs' fp' k r' ro s => ?_
    split at k
    · rename_i y j
      split at k
      · rename_i hl
        obtain ⟨_, rfl, _⟩ := ro
        refine ⟨y, rfl, hl, t_js ⟨e', Hs', fp', r', k.imp (Stp.refl _ _ _) fun o2 e2 k2 v H2 Hs2 fp2 ro2 s2 => k2 v H2 Hs2 fp2 ro2 (s.trans s2)⟩⟩
      · exact k.elim
    · exact k.elim
theorem re_joined {v1 v2 : Expr} {rest : List Expr} {ms : List (M Op)} {pos : Pos} (h : RJ X p W (v1 :: v2 :: rest) ms) : RE X p W (.JoinedStr (v1 :: v2 :: rest) pos) (mJs ms Str.empty) := ⟨PE_imp (pe_joined h.pj) fun σ H Q q => t_js q⟩
end
/-! ### walks over two things -/
def zipD : List D → List D → List D
  | a :: as, b :: bs => .tup [a, b] :: zipD as bs
  | _, _ => []
theorem zipD_get : ∀ {as bs : List D} {i : Nat} {d : D}, (zipD as bs)[i]? = some d → ∃ a b, as[i]? = some a ∧ bs[i]? = some b ∧ d = .tup [a, b]
  | [], _, _, _, h => by simp [zipD] at h
  | _ :: _, [], _, _, h => by simp [zipD] at h
  | a :: as, b :: bs, 0, d, h => by simp [zipD] at h; exact ⟨a, b, rfl, rfl, h.symm⟩
  | a :: as, b :: bs, i + 1, d, h => by
    obtain ⟨x, y, h1, h2, h3⟩ := zipD_get (as := as) (bs := bs) (i := i) (d := d) (by simpa [zipD] using h)
    exact ⟨x, y, by simpa using h1, by simpa using h2, h3⟩
theorem zipD_len : ∀ (as bs : List D), as.length ≤ (zipD as bs).length ∨ bs.length ≤ (zipD as bs).length
  | [], _ => .inl (by simp)
  | _ :: _, [] => .inr (by simp)
  | a :: as, b :: bs => by
    rcases zipD_len as bs with h | h
    · exact .inl (by simp [zipD]; exact h)
    · exact .inr (by simp [zipD]; exact h)
/-- the items of a list that stands still -/
def lsOf : D → Option (List D)
  | .lst ds => some ds
  | .kls ds => some ds
  | _ => none
theorem lsOf_rp {K : PySem.W.Frag} {Hs : Hp} {d : D} {ds : List D} {v : V} (h : ∀ H, Rp K H Hs d 0 v []) (hl : lsOf d = some ds) : ∃ a vs, v = .ref a ∧ SqL K Hs a vs ∧ ∀ H, RpL K H Hs ds 0 vs [] := by
  cases d with
  | lst xs =>
    cases hl
    obtain ⟨a, vs, f, rfl, h1, hc⟩ := h Hs
    rcases hc with ⟨_, h2, rfl⟩ | ⟨hk, _⟩
    · exact ⟨a, vs, rfl, .inl (.inl h2), fun H => h1.still (Ex.refl _)⟩
    · exact absurd hk (Nat.lt_irrefl _)
  | kls xs =>
    cases hl
    obtain ⟨a, vs, rfl, h1, h2, _⟩ := h Hs
    exact ⟨a, vs, rfl, h2, fun H => h1.still (Ex.refl _)⟩
  | _ => cases hl
theorem wk_pair {K : PySem.W.Frag} {J : It} {ds : List D} {Hs : Hp} (go : ∀ i d H2 Hs2, ds[i]? = some d → Ex Hs Hs2 → Ex Hs2 H2 → J.go i H2) (stop : ∀ H2 Hs2, Ex Hs Hs2 → Ex Hs2 H2 → J.stop ds.length H2)
    (yl : ∀ i d H2 Hs2 x H3, ds[i]? = some d → Ex Hs Hs2 → Ex Hs2 H2 → J.yld i H2 x H3 → ∃ a b T u v, d = .tup [a, b] ∧ x = .ref T ∧ H2 T = none ∧ H3 = upd H2 T (.tup [u, v]) ∧ (∀ H, Rp K H Hs2 a 0 u []) ∧ (∀ H, Rp K H Hs2 b 0 v [])) : Wk K J ds Hs where
  go := go
  stop := stop
  yld := fun i d H2 Hs2 x H3 hd ex1 ex2 hy => by
    obtain ⟨a, b, T, u, v, rfl, rfl, hT, rfl, h1, h2⟩ := yl i d H2 Hs2 x H3 hd ex1 ex2 hy
    have nS := Evl.fresh_back ex2 hT
    refine ⟨upd Hs2 T (.tup [u, v]), ex_upd2 ex2, ⟨T, [u, v], rfl, ?_, upd_same⟩, Stp.new hT ex2⟩
    exact RpL.cons0 ((h1 H2).still (Ex.new nS)) (RpL.cons0 ((h2 H2).still (Ex.new nS)) RpL.nil')
def zpOf : List D → Option (List D)
  | [.tup as, .tup bs] => some (zipD as bs)
  | [a, b] => (lsOf a).bind fun as => (lsOf b).map fun bs => zipD as bs
  | _ => none
def iZ (ms : M (List Op)) : M (List D) := (mFz ms).bind fun ds => oK (zpOf ds)
section
variable {X : Cx} {p : Pins} {W : WX}
theorem ri_zip {y z : Expr} {ms : M (List Op)} {pp pos tpos : Pos} {elts : List Expr} {kk : Nat} (hg : Gl X "zip") (hm : X.mg "zip" = none) (ha : RA X p W [y, z] ms) (hs : starEach [y, z] X.env = (false, eval y X.env) :: starEach [z] X.env := by rfl) (hpl : (backTo pos (starEach [z] X.env)).any (·.1) = false := by rfl) :
    RI X p W (.Tuple elts kk tpos) (.Call (.Name "zip" pp) [y, z] [] pos) (iZ ms) := ⟨⟨fun pins s σ H R I q => (RZ.pi_zipA (elts := elts) (kk := kk) (tpos := tpos) hg hm ha.pa hs hpl).run pins s σ H R I (by
  obtain ⟨e, Hs, fp, r, q⟩ := q
  refine tMA_mono (t_fz r q.bind) fun vs H' ⟨ds, e2, Hs', fp', r2, hl, s, k⟩ => ?_
  obtain ⟨l, hz, k⟩ := kM_oK k
  unfold zpOf at hz
  split at hz
  · rename_i as bs
    cases hz
    obtain ⟨u, w, rfl, h1, h20⟩ := (hl H').uncons
    obtain ⟨v, w, rfl, h2, h3⟩ := h20.uncons
    obtain ⟨rfl, _⟩ := h3
    obtain ⟨A, us, rfl, hUs0, hA⟩ := h1
    obtain ⟨B, vs, rfl, hVs0, hB⟩ := h2
    have hUs : ∀ H, RpL X.K H Hs' as 0 us [] := fun H => hUs0.still (Ex.refl _)
    have hVs : ∀ H, RpL X.K H Hs' bs 0 vs [] := fun H => hVs0.still (Ex.refl _)
    have tA : ∀ {H2 Hs2 : Hp}, Ex Hs' Hs2 → Ex Hs2 H2 → SqT X.K H2 A us := fun e1 e2 => .inl (.inl (e2 _ _ (e1 _ _ hA)))
    have tB : ∀ {H2 Hs2 : Hp}, Ex Hs' Hs2 → Ex Hs2 H2 → SqT X.K H2 B vs := fun e1 e2 => .inl (.inl (e2 _ _ (e1 _ _ hB)))
    refine ⟨A, B, us, vs, rfl, .inr ⟨.inl (.inl (r2.ex _ _ hA)), .inl (.inl (r2.ex _ _ hB)), k _ H' Hs' fp' r2 s (wk_pair (fun i d H2 Hs2 hd ex1 ex2 => ?_) (fun H2 Hs2 ex1 ex2 => ?_) fun i d H2 Hs2 x H3 hd ex1 ex2 hy => ?_)⟩⟩
    · obtain ⟨x, y, q1, q2, _⟩ := zipD_get hd
      obtain ⟨x', q1, _⟩ := (hUs H2).get q1
      obtain ⟨y', q2, _⟩ := (hVs H2).get q2
      exact ⟨us, vs, x', y', tA ex1 ex2, tB ex1 ex2, q1, q2⟩
    · refine ⟨us, vs, tA ex1 ex2, tB ex1 ex2, ?_⟩
      rw [← (hUs H2).len, ← (hVs H2).len]
      exact zipD_len as bs
    · obtain ⟨T, x', y', rfl, hT, rfl, f1, f2⟩ := hy
      obtain ⟨x, y, q1, q2, rfl⟩ := zipD_get hd
      obtain ⟨u, q1, hu⟩ := (hUs H2).get q1
      obtain ⟨v, q2, hv⟩ := (hVs H2).get q2
      have e1 := f1 us (tA ex1 ex2)
      have e2 := f2 vs (tB ex1 ex2)
      rw [q1] at e1
      rw [q2] at e2
      cases e1
      cases e2
      exact ⟨x, y, T, _, _, rfl, rfl, hT, rfl, fun H => hu.still ex1, fun H => hv.still ex1⟩
  · rename_i a b _
    obtain ⟨as, ha', hz⟩ := Option.bind_eq_some_iff.mp hz
    obtain ⟨bs, hb', rfl⟩ := Option.map_eq_some_iff.mp hz
    obtain ⟨u, w, rfl, h1, h20⟩ := (hl H').uncons
    obtain ⟨v, w, rfl, h2, h3⟩ := h20.uncons
    obtain ⟨rfl, _⟩ := h3
    obtain ⟨A, us, rfl, hA, hUs⟩ := lsOf_rp (fun H => h1.still (Ex.refl _)) ha'
    obtain ⟨B, vs, rfl, hB, hVs⟩ := lsOf_rp (fun H => h2.still (Ex.refl _)) hb'
    refine ⟨A, B, us, vs, rfl, .inl ⟨Evl.ex_l r2.ex hA, Evl.ex_l r2.ex hB, k _ H' Hs' fp' r2 s (wk_pair (fun i d H2 Hs2 hd ex1 ex2 => ?_) (fun H2 Hs2 ex1 ex2 => ?_) fun i d H2 Hs2 x H3 hd ex1 ex2 hy => ?_)⟩⟩
    · obtain ⟨x, y, q1, q2, _⟩ := zipD_get hd
      obtain ⟨x', q1, _⟩ := (hUs H2).get q1
      obtain ⟨y', q2, _⟩ := (hVs H2).get q2
      exact ⟨us, vs, x', y', Evl.ex_l (ex1.trans ex2) hA, Evl.ex_l (ex1.trans ex2) hB, q1, q2⟩
    · refine ⟨us, vs, Evl.ex_l (ex1.trans ex2) hA, Evl.ex_l (ex1.trans ex2) hB, ?_⟩
      rw [← (hUs H2).len, ← (hVs H2).len]
      exact zipD_len as bs
    · obtain ⟨T, x', y', rfl, hT, rfl, f1, f2⟩ := hy
      obtain ⟨x, y, q1, q2, rfl⟩ := zipD_get hd
      obtain ⟨u, q1, hu⟩ := (hUs H2).get q1
      obtain ⟨v, q2, hv⟩ := (hVs H2).get q2
      have e1 := f1 us (Evl.ex_l (ex1.trans ex2) hA)
      have e2 := f2 vs (Evl.ex_l (ex1.trans ex2) hB)
      rw [q1] at e1
      rw [q2] at e2
      cases e1
      cases e2
      exact ⟨x, y, T, _, _, rfl, rfl, hT, rfl, fun H => hu.still ex1, fun H => hv.still ex1⟩
  · cases hz)⟩⟩
def enumD : Nat → List D → List D
  | _, [] => []
  | n, d :: ds => .tup [.int n, d] :: enumD (n + 1) ds
theorem enumD_get : ∀ {ds : List D} {n i : Nat} {d : D}, (enumD n ds)[i]? = some d → ∃ a, ds[i]? = some a ∧ d = .tup [.int ((n + i : Nat) : Int), a]
  | [], _, _, _, h => by simp [enumD] at h
  | a :: ds, n, 0, d, h => by simp [enumD] at h; exact ⟨a, rfl, h.symm⟩
  | a :: ds, n, i + 1, d, h => by
    obtain ⟨x, h1, h2⟩ := enumD_get (ds := ds) (n := n + 1) (i := i) (d := d) (by simpa [enumD] using h)
    exact ⟨x, by simpa using h1, by rw [h2, show n + 1 + i = n + (i + 1) by omega]⟩
theorem enumD_len : ∀ (ds : List D) (n : Nat), (enumD n ds).length = ds.length
  | [], _ => rfl
  | a :: ds, n => by simp [enumD, enumD_len ds]
def iE (ms : M (List Op)) : M (List D) := (mFz ms).bind fun ds => oK (match ds with
  | [a] => (lsOf a).map (enumD 0)
  | _ => none)
theorem ri_enum {y : Expr} {ms : M (List Op)} {pp pos tpos : Pos} {elts : List Expr} {kk : Nat} (hg : Gl X "enumerate") (hm : X.mg "enumerate" = none) (ha : RA X p W [y] ms) (hs : starEach [y] X.env = [(false, eval y X.env)] := by rfl) :
    RI X p W (.Tuple elts kk tpos) (.Call (.Name "enumerate" pp) [y] [] pos) (iE ms) := ⟨⟨fun pins s σ H R I q => (pi_enum (elts := elts) (kk := kk) (tpos := tpos) hg hm ha.pa hs).run pins s σ H R I (by
  obtain ⟨e, Hs, fp, r, q⟩ := q
  refine tMA_mono (t_fz r q.bind) fun vs H' ⟨ds, e2, Hs', fp', r2, hl, s, k⟩ => ?_
  obtain ⟨l, hz, k⟩ := kM_oK k
  split at hz
  · rename_i a
    obtain ⟨as, ha', rfl⟩ := Option.map_eq_some_iff.mp hz
    obtain ⟨u, w, rfl, h1, h2⟩ := (hl H').uncons
    obtain ⟨rfl, _⟩ := h2
    obtain ⟨A, us, rfl, hA, hUs⟩ := lsOf_rp (fun H => h1.still (Ex.refl _)) ha'
    refine ⟨A, us, rfl, Evl.ex_l r2.ex hA, k _ H' Hs' fp' r2 s (wk_pair (fun i d H2 Hs2 hd ex1 ex2 => ?_) (fun H2 Hs2 ex1 ex2 => ?_) fun i d H2 Hs2 x H3 hd ex1 ex2 hy => ?_)⟩
    · obtain ⟨x, q1, _⟩ := enumD_get hd
      obtain ⟨x', q1, _⟩ := (hUs H2).get q1
      exact ⟨us, x', Evl.ex_l (ex1.trans ex2) hA, q1⟩
    · exact ⟨us, Evl.ex_l (ex1.trans ex2) hA, by rw [← (hUs H2).len, enumD_len]; exact Nat.le_refl _⟩
    · obtain ⟨T, x', rfl, hT, rfl, f1⟩ := hy
      obtain ⟨x, q1, rfl⟩ := enumD_get hd
      obtain ⟨u, q1, hu⟩ := (hUs H2).get q1
      have e1 := f1 us (Evl.ex_l (ex1.trans ex2) hA)
      rw [q1] at e1
      cases e1
      exact ⟨.int ((0 + i : Nat) : Int), x, T, .int (i : Nat), _, rfl, rfl, hT, rfl, fun H => ⟨by rw [Nat.zero_add], rfl⟩, fun H => hu.still ex1⟩
  · cases hz)⟩⟩
end
end Rf
/-! Rf, part J: stores into lists, lists of lists, calls by keywords. -/
namespace Rf
open PySem PySem.Spec PyProof.Rows L2
open Evl (Ex)
section
variable {X : Cx} {p : Pins} {W : WX}
/-- x[i] = v -/
def fSetI (j : Nat) (ov oi : Op) : M Fl := fun e => match e[j]?, pk e (frz ov), pk e (frz oi) with
  | some (some (.lst ds, 1)), some (d, 0), some (.int i, _) => (match ixN ds.length i with
    | some q => some (.ok .nx (e.set j (some (.lst (ds.set q d), 1))))
    | none => none)
  | _, _, _ => none
def mSetI (j : Nat) (mi mv : M Op) : M Fl := mv.bind fun ov e1 => match e1[j]? with
  | some (some (.lst _, _)) => (mi.bind fun oi => fSetI j ov oi) e1
  | _ => none
theorem frz_frz (o : Op) : frz (frz o) = frz o := by cases o <;> rfl
theorem rs_setI {j : Nat} {x : Str} {i v : Expr} {mi mv : M Op} {px tpos pos : Pos} (hi : RE X p W i mi) (hv : RE X p W v mv) (ho : PE X (.Name x px) (tVar j) := by exact pv _)
    (ha : ∀ u, assign (.Subscript (.Name x px) i tpos) X.env u = (do let ov ← holding [u] (eval (.Name x px) X.env); let iv ← holding [u, ov] (eval i X.env); standAt tpos; holding [u, ov, iv] (setItem ov iv u); release [u, ov, iv] []) := by intro _; rfl)
    (hs : swapsWithSole [.Subscript (.Name x px) i tpos] v pos.line X.env = pure false := by rfl) (hw : swappedStores [.Subscript (.Name x px) i tpos] v X.env = pure none := by rfl) (h1 : (assignEach [.Subscript (.Name x px) i tpos] X.env).map (·.2) = [assign (.Subscript (.Name x px) i tpos) X.env] := by rfl) :
    RS X p W (.Assign [.Subscript (.Name x px) i tpos] v pos) (mSetI j mi mv) := ⟨PS_imp (ps_asg hv.pe (pg_sub ho hi.pe set_list ha) hs hw h1) fun σ H D q => by
  obtain ⟨e, Hs, fp, r, q⟩ := q
  refine tM.then' (Q := fun y H1 => gSub (tVar j) (tM X.K p W mi) rSetL y σ H1 D.nx) r q fun ov e1 y H1 Hs1 fp1 k1 r1 ro1 s1 => ?_
  split at k1
  rotate_left
  · exact k1.elim
  rename_i ds0 k0 h0
  obtain ⟨a, vs0, hσ, _⟩ := r1.lst h0
  refine ⟨.ref a, hσ, tM.then' (Q := fun iv H2 => rSetL (.ref a) iv y H2 fun H3 => D.nx σ H3) r1 k1 fun oi e2 iv H2 Hs2 fp2 k2 r2 ro2 s2 => ?_⟩
  unfold fSetI at k2
  split at k2
  rotate_left
  · exact k2.elim
  rename_i ds d i' ki hj hov hoi
  split at k2
  rotate_left
  · exact k2.elim
  rename_i q hq
  obtain ⟨f1, hr1, _⟩ := pk_rp r2 (ro1.keep s2.ex) hov
  have := hr1.fp0
  subst this
  obtain ⟨f2, hr2, _⟩ := pk_rp r2 ro2 hoi
  obtain ⟨a', vs, hσ', hH, hn, hds, _⟩ := r2.write (ds' := ds) (vs' := []) hj
  rw [hσ] at hσ'
  cases hσ'
  obtain ⟨a', vs2, hσ', hH', _, _, wr⟩ := r2.write (ds' := ds.set q d) (vs' := vs.set q y) hj
  rw [hσ] at hσ'
  cases hσ'
  obtain ⟨r3, s3⟩ := wr fun H => (hds H).set q (hr1.still (Ex.refl _))
  exact ⟨a, vs, i', q, rfl, hr2.1, hH, by rw [← (hds H).len]; exact hq, k2 σ _ Hs2 fp2 r3 ((s1.trans s2).trans s3)⟩⟩
/-- xs.append(e), xs a list of lists owned k deep, e a new thing owned as deep -/
def mApp (j ck : Nat) (m : M Op) : M Op := fun e0 => match e0[j]? with
  | some (some (.lst _, _)) => (m.bind fun o e => match o with
    | .val d k => match e[j]? with
      | some (some (.lst ds, k')) => if k' = ck + 1 ∧ k = ck ∧ ds.length < sizeLine then some (.ok (.val .non 0) (e.set j (some (.lst (ds ++ [d]), ck + 1)))) else none
      | _ => none
    | _ => none) e0
  | _ => none
theorem re_app (ck : Nat) {j : Nat} {x : Str} {y : Expr} {px apos cpos : Pos} {m : M Op} (ha : RE X p W y m) (ho : PE X (.Name x px) (tVar j) := by exact pv _) (hbase : attributeBase (.Name x px) "append" X.env (eval (.Name x px) X.env) = eval (.Name x px) X.env := by rfl) (hline : (apos.endLine == cpos.line) = true := by rfl)
    (hfew : ((backTo cpos (starEach [y] X.env)).all (fun x => !x.1) && (backToKw cpos (keywordEach [] X.env)).all (fun x => x.1.isSome)
      && decide ([y].length + ([] : List Keyword).length + (if ([] : List Keyword).isEmpty then 0 else 1) < 30)) = true := by rfl)
    (hs : starEach [y] X.env = (false, eval y X.env) :: starEach [] X.env := by rfl) (hpl : (backTo cpos (starEach [] X.env)).any (·.1) = false := by rfl) : RE X p W (.Call (.Attribute (.Name x px) "append" apos) [y] [] cpos) (mApp j ck m) :=
  ⟨PE_imp (pe_bm PySem.F.plainAttrs_list PySem.F.slot_list_append PySem.F.type_list_append mt_append ho (pa_cons ha.pe pa_nil hs) hbase hfew hline hs hpl) fun σ H Q q => by
    obtain ⟨e, Hs, fp, r, q⟩ := q
    unfold mApp at q
    split at q
    rotate_left
    · exact q.elim
    rename_i ds0 k0 h0
    obtain ⟨a, vs0, hσ, hH⟩ := r.lst h0
    refine ⟨.ref a, hσ, .inl ⟨rfl, vs0, .inl (.inl hH)⟩, e, Hs, fp, r, q.bind.imp (Stp.refl _ _ _) fun o e1 k1 v H1 Hs1 fp1 ro s1 => ?_⟩
    split at k1
    rotate_left
    · exact k1.elim
    rename_i d k
    split at k1
    rotate_left
    · exact k1.elim
    rename_i ds k' hj
    obtain ⟨hc, k2⟩ := kM_if k1
    obtain ⟨rfl, rfl, hlen⟩ := hc
    obtain ⟨f, g, rfl, r1, hd, nd⟩ := ro
    obtain ⟨v', fR, fI, hσ', rR, hI, hfp, hdis, ndI⟩ := r1.out hj
    rw [hσ] at hσ'
    cases hσ'
    obtain ⟨a', vs, fi, hv, hl, hcc⟩ := hI
    cases hv
    rcases hcc with ⟨hz, _⟩ | ⟨_, h1, h2, rfl⟩
    · cases hz
    have ndd := List.nodup_append.mp nd
    have anG : a ∉ g := fun z => ndd.2.2 a ((hfp a).mpr (.inr List.mem_cons_self)) a z rfl
    have anF : a ∉ fi := (List.nodup_cons.mp ndI).1
    have anR : a ∉ fR := fun z => hdis a z List.mem_cons_self
    have hl' : RpL X.K (upd H1 a (.lst (vs ++ [v]))) Hs1 (ds ++ [d]) k (vs ++ [v]) (fi ++ g) := by
      refine RpL.append (hl.frame (Ex.refl _) fun b hb => ⟨by rw [upd_ne (mem_ne hb anF)], (hl.own b hb).1⟩) (RpL.one (hd.frame (Ex.refl _) fun b hb => ⟨by rw [upd_ne (mem_ne hb anG)], (hd.own b hb).1⟩))
    have rR' : Rel X.K p (e1.set j none) σ (upd H1 a (.lst (vs ++ [v]))) Hs1 fR := rR.frame (Ex.refl _) (ex_updO r1.ex h2) fun b hb => ⟨by rw [upd_ne (mem_ne hb anR)], (rR.disj b hb).1⟩
    have hnew : Rp X.K (upd H1 a (.lst (vs ++ [v]))) Hs1 (.lst (ds ++ [d])) (k + 1) (.ref a) (a :: (fi ++ g)) := ⟨a, vs ++ [v], fi ++ g, rfl, hl', .inr ⟨Nat.succ_pos _, upd_same, h2, rfl⟩⟩
    have ndn : (a :: (fi ++ g)).Nodup := List.nodup_cons.mpr ⟨fun z => (List.mem_append.mp z).elim anF anG, List.nodup_append.mpr ⟨(List.nodup_cons.mp ndI).2, ndd.2.1, fun x hx y hy e => ndd.2.2 x ((hfp x).mpr (.inr (List.mem_cons_of_mem _ hx))) y hy e⟩⟩
    have hje : j < (e1.set j none).length := by
      have := (List.getElem?_eq_some_iff.mp hj).1
      simpa using this
    obtain ⟨fp2, r2, hsub⟩ := rR'.into hje hσ hnew ndn fun b hb hz => by
      rcases List.mem_cons.mp hb with rfl | hb
      · exact anR hz
      · rcases List.mem_append.mp hb with hb | hb
        · exact hdis b hz (List.mem_cons_of_mem _ hb)
        · exact ndd.2.2 b ((hfp b).mpr (.inl hz)) b hb rfl
    rw [List.set_set] at r2
    refine ⟨a, vs, v, rfl, rfl, h1, by rw [← hl.len]; exact hlen, k2 .non _ Hs1 fp2 ⟨fp2, [], by simp, r2, ⟨rfl, rfl⟩, r2.nd⟩ (s1.trans ⟨Ex.refl _, fun b o hb n => ?_, fun b h => .inl h, fun b hb => .inl ?_, fun b h => upd_none h⟩)⟩
    · rw [upd_ne (fun z => n (by rw [z]; exact List.mem_append_left _ ((hfp a).mpr (.inr List.mem_cons_self))))]; exact hb
    · rcases hsub b hb with z | z
      · exact List.mem_append_left _ ((hfp b).mpr (.inl z))
      · rcases List.mem_cons.mp z with rfl | z
        · exact List.mem_append_left _ ((hfp b).mpr (.inr List.mem_cons_self))
        · rcases List.mem_append.mp z with z | z
          · exact List.mem_append_left _ ((hfp b).mpr (.inr (List.mem_cons_of_mem _ z)))
          · exact List.mem_append_right _ z⟩
/-! ### y = xs[i]; y.append(e): the inner list of a list of lists -/
/-- an argument that changes nothing -/
def ArgS (K : PySem.W.Frag) (p : Pins) (i : Nat) (t : TE) (f : En → Option D) : Prop := ∀ e σ H Hs fp, Rel K p e σ H Hs fp → ∀ d, f e = some d → ∃ x, (∀ H, Rp K H Hs d 0 x []) ∧ ∀ (σ' : L2.St) H' (Q : VK), (∀ k, k ≠ i → σ'[k]? = σ[k]?) → Q x H' → t σ' H' Q
def IdxS (t : TE) (n : Int) : Prop := ∀ σ H Q, Q (.int n) H → t σ H Q
theorem arg_int {K : PySem.W.Frag} {i : Nat} {n : Int} : ArgS K p i (tC (.int n)) (fun _ => some (.int n)) := fun e σ H Hs fp r d hd => by
  cases hd
  exact ⟨.int n, fun _ => ⟨rfl, rfl⟩, fun _ _ _ _ q => q⟩
def argV (j : Nat) (e : En) : Option D := match e[j]? with | some (some (d, 0)) => some d | _ => none
theorem arg_v {K : PySem.W.Frag} {i : Nat} (j : Nat) (hj : j ≠ i) : ArgS K p i (tVar j) (argV j) := fun e σ H Hs fp r d hd => by
  unfold argV at hd
  split at hd
  · rename_i d' h
    cases hd
    have hi : j < e.length := (List.getElem?_eq_some_iff.mp h).1
    obtain ⟨x, s, f1, f2, f3, e1, e2, rfl, e4, _⟩ := r.sl.lens j hi
    rw [h] at e1
    cases e1
    obtain ⟨v, rfl, hr⟩ := e4
    have := hr.fp0
    subst this
    exact ⟨v, fun H => hr.still (Ex.refl _), fun σ' H' Q hs q => ⟨v, by rw [hs j hj]; exact e2, q⟩⟩
  · cases hd
theorem idx_int {n : Int} : IdxS (tC (.int n)) n := fun _ _ _ q => q
theorem idx_neg {n : Int} : IdxS (tUn (rU fun i => .int (-i)) (tC (.int n))) (-n) := fun _ _ _ q => ⟨n, rfl, q⟩
def mAl (g i : Nat) (n : Int) (f : En → Option D) : M Fl := fun e => match e[g]?, f e with
  | some (some (.lst ds, 2)), some d => (match ixN ds.length n with
    | some q => (match ds[q]? with
      | some (.lst xs) => if xs.length < sizeLine ∧ i < e.length ∧ i ≠ g then some (.ok .nx ((e.set g (some (.lst (ds.set q (.lst (xs ++ [d]))), 2))).set i none)) else none
      | _ => none)
    | none => none)
  | _, _ => none
theorem rpl_split {K : PySem.W.Frag} {H Hs : Hp} {k : Nat} : ∀ {ds : List D} {vs : List V} {fp : List Addr} {q : Nat} {d : D}, RpL K H Hs ds k vs fp → ds[q]? = some d → ∃ v f1 f2 f3, vs[q]? = some v ∧ fp = f1 ++ (f2 ++ f3) ∧ Rp K H Hs d k v f2 ∧
    ∀ H' d' f2', (∀ a, a ∈ f1 ∨ a ∈ f3 → H' a = H a) → Rp K H' Hs d' k v f2' → RpL K H' Hs (ds.set q d') k vs (f1 ++ (f2' ++ f3))
  | [], _, _, q, _, _, h => by simp at h
  | d0 :: ds, vs, fp, 0, d, h, hd => by
    obtain ⟨v, r, f, g, rfl, rfl, h1, h2⟩ := h
    simp at hd
    subst hd
    exact ⟨v, [], f, g, rfl, rfl, h1, fun H' d' f2' hk hn => ⟨v, r, f2', g, rfl, rfl, hn, h2.frame (Ex.refl _) fun a ha => ⟨hk a (.inr ha), (h2.own a ha).1⟩⟩⟩
  | d0 :: ds, vs, fp, q + 1, d, h, hd => by
    obtain ⟨v, r, f, g, rfl, rfl, h1, h2⟩ := h
    obtain ⟨u, f1, f2, f3, q1, rfl, q3, q4⟩ := rpl_split h2 (by simpa using hd)
    refine ⟨u, f ++ f1, f2, f3, by simpa using q1, by rw [List.append_assoc], q3, fun H' d' f2' hk hn => ?_⟩
    exact ⟨v, r, f, f1 ++ (f2' ++ f3), rfl, by rw [List.append_assoc], h1.frame (Ex.refl _) fun a ha => ⟨hk a (.inl (List.mem_append_left _ ha)), (h1.own a ha).1⟩, q4 H' d' f2' (fun a ha => hk a (ha.elim (fun z => .inl (List.mem_append_right _ z)) .inr)) hn⟩
theorem t_al {g i : Nat} {n : Int} {f : En → Option D} {ti ta : TE} {rest : M Fl} {D : Ends} {σ : L2.St} {H : Hp} (hi : IdxS ti n) (ha : ArgS X.K p i ta f) (hp : ∀ q ∈ p, q.1 ≠ i) (q : tMS X.K p W (mSeq (mAl g i n f) rest) D σ H) :
    tSeq (tAsg (tOp (rIxL X.K) (tVar g) ti) (gName i)) (tSeq (tDrop (tBM X.K "list" rAppend (tVar i) (tCons ta tNil))) (tMS X.K p W rest)) D σ H := by
  obtain ⟨e, Hs, fp, r, q⟩ := q
  have q := q.bind
  unfold mAl at q
  split at q
  rotate_left
  · exact q.elim
  rename_i ds d hg hf
  split at q
  rotate_left
  · exact q.elim
  rename_i j hj
  split at q
  rotate_left
  · exact q.elim
  rename_i xs hx
  obtain ⟨hc, q⟩ := kM_if q
  obtain ⟨hlen, hie, hig⟩ := hc
  obtain ⟨x, hxr, hxt⟩ := ha e σ H Hs fp r d hf
  obtain ⟨v', fR, fI, hσ, rR, hI, hfp, hdis, ndI⟩ := r.out hg
  obtain ⟨a, vs, fi, hv, hl, hcc⟩ := hI
  cases hv
  rcases hcc with ⟨hz, _⟩ | ⟨_, h1, h2, rfl⟩
  · cases hz
  obtain ⟨u, f1, f2, f3, hu, rfl, hr2, put'⟩ := rpl_split hl hx
  obtain ⟨b, us, fb, hub, hbl, hbc⟩ := hr2
  cases hub
  rcases hbc with ⟨hz, _⟩ | ⟨_, h3, h4, rfl⟩
  · cases hz
  have fb0 := hbl.fp0
  subst fb0
  have ndc := List.nodup_cons.mp ndI
  have n1 := List.nodup_append.mp ndc.2
  have n2 := List.nodup_append.mp n1.2.1
  have bna : b ≠ a := fun z => ndc.1 (by rw [← z]; simp)
  have bR : b ∉ fR := fun z => hdis b z (by simp)
  have bfp : b ∈ fp := (hfp b).mpr (.inr (by simp))
  have hl' : RpL X.K (upd H b (.lst (us ++ [x]))) Hs (ds.set j (.lst (xs ++ [d]))) 1 vs (f1 ++ ([b] ++ f3)) := put' _ _ [b] (fun c hc => by
    rw [upd_ne]
    rintro rfl
    rcases hc with hc | hc
    · exact n1.2.2 c hc c (by simp) rfl
    · exact n2.2.2 c (by simp) c hc rfl) ⟨b, us ++ [x], [], rfl, by simpa using (hbl.still (Ex.refl _)).append (RpL.one (hxr _)), .inr ⟨Nat.one_pos, upd_same, h4, rfl⟩⟩
  have rR' : Rel X.K p (e.set g none) σ (upd H b (.lst (us ++ [x]))) Hs fR := rR.frame (Ex.refl _) (ex_updO r.ex h4) fun c hc => ⟨by rw [upd_ne (mem_ne hc bR)], (rR.disj c hc).1⟩
  have hnew : Rp X.K (upd H b (.lst (us ++ [x]))) Hs (.lst (ds.set j (.lst (xs ++ [d])))) 2 (.ref a) (a :: (f1 ++ ([b] ++ f3))) := ⟨a, vs, _, rfl, hl', .inr ⟨by decide, by rw [upd_ne (Ne.symm bna)]; exact h1, h2, rfl⟩⟩
  obtain ⟨fp2, r2, hsub⟩ := rR'.into (by have := (List.getElem?_eq_some_iff.mp hg).1; simpa using this) hσ hnew ndI fun c hc hz => hdis c hz hc
  rw [List.set_set] at r2
  -- the slot of the inner list forgotten
  have hi2 : i < (e.set g (some (.lst (ds.set j (.lst (xs ++ [d]))), 2))).length := by simpa using hie
  obtain ⟨y, s, g1, g2, g3, e1, e2, rfl, e4, put2⟩ := r2.sl.lens i hi2
  have sl3 := put2 _ Hs none (some (.ref b)) [] (Ex.refl _) (fun c hc => ⟨rfl, (r2.disj c (by rcases hc with hc | hc <;> simp [hc])).1⟩) rfl
  have m1 := List.nodup_append.mp r2.nd
  have m2 := List.nodup_append.mp m1.2.1
  have r3 : Rel X.K p ((e.set g (some (.lst (ds.set j (.lst (xs ++ [d]))), 2))).set i none) (σ.set i (some (.ref b))) (upd H b (.lst (us ++ [x]))) Hs (g1 ++ ([] ++ g3)) := ⟨r2.ex, sl3, List.nodup_append.mpr ⟨m1.1, m2.2.1, fun c hc c' hc' => m1.2.2 c hc c' (List.mem_append_right _ hc')⟩, fun z hz => by rw [List.getElem?_set_ne (Ne.symm (hp z hz))]; exact r.pn z hz⟩
  have st : Stp H Hs fp (upd H b (.lst (us ++ [x]))) Hs (g1 ++ ([] ++ g3)) := ⟨Ex.refl _, fun c o hc n => by rw [upd_ne (Ne.symm (mem_ne bfp n))]; exact hc, fun c h => .inl h, fun c hc => .inl (by
    have hc' : c ∈ g1 ++ (g2 ++ g3) := by simp at hc ⊢; rcases hc with z | z <;> simp [z]
    rcases hsub c hc' with z | z
    · exact (hfp c).mpr (.inl z)
    · exact (hfp c).mpr (.inr z)), fun c h => upd_none h⟩
  have hil : i < σ.length := by rw [r.sl.len]; exact hie
  -- y = xs[i]
  refine ⟨.ref a, hσ, hi _ _ _ ⟨a, vs, n, .ref b, rfl, rfl, .inl (.inl h1), ?_, ?_⟩⟩
  · unfold atI
    rw [← hl.len, hj]
    exact hu
  -- y.append(e)
  · refine ⟨.ref b, by rw [List.getElem?_set_self hil], .inl ⟨rfl, us, .inl (.inl h3)⟩, hxt _ _ _ (fun k hk => by rw [List.getElem?_set_ne (Ne.symm hk)]) ?_⟩
    exact ⟨b, us, x, rfl, rfl, h3, by rw [← hbl.len]; exact hlen, _, Hs, _, r3, kM.imp (show kM X.K p W H Hs fp (rest _) _ from q) st fun f e h => h.after st⟩
theorem rss_al {g i : Nat} {n : Int} {f : En → Option D} {ti ta : TE} {x y : Str} {ix arg : Expr} {px py py2 p1 p2 apos cpos p3 : Pos} {ss : List Stmt} {rest : M Fl} (hN : X.N.Nodup) (hi' : X.N[i]? = some y) (hx : Loc X.env.scope y) (hti : PE X ix ti) (hi : IdxS ti n) (hta : PE X arg ta) (ha : ArgS X.K p i ta f) (hp : ∀ q ∈ p, q.1 ≠ i) (hr : RSs X p W ss rest)
    (hg : PE X (.Name x px) (tVar g) := by exact pv _) (hy : PE X (.Name y py2) (tVar i) := by exact pv _) (hs : swapsWith (.Subscript (.Name x px) ix p1) (some (.Name y py)) p2.line X.env = pure false := by rfl) (hpi : PlainIx ix := by exact fun _ _ => rfl) (hf : X.fn y = true ∨ X.env.scope.names.lookup y = some .local := by first | exact .inl rfl | exact .inr rfl)
    (hbase : attributeBase (.Name y py2) "append" X.env (eval (.Name y py2) X.env) = eval (.Name y py2) X.env := by rfl) (hline : (apos.endLine == cpos.line) = true := by rfl)
    (hfew : ((backTo cpos (starEach [arg] X.env)).all (fun x => !x.1) && (backToKw cpos (keywordEach [] X.env)).all (fun x => x.1.isSome)
      && decide ([arg].length + ([] : List Keyword).length + (if ([] : List Keyword).isEmpty then 0 else 1) < 30)) = true := by rfl)
    (hst : starEach [arg] X.env = (false, eval arg X.env) :: starEach [] X.env := by rfl) (hpl : (backTo cpos (starEach [] X.env)).any (·.1) = false := by rfl) (hsw : swapsWith (.Call (.Attribute (.Name y py2) "append" apos) [arg] [] cpos) none p3.line X.env = pure false := by rfl) :
    RSs X p W (.Assign [.Name y py] (.Subscript (.Name x px) ix p1) p2 :: .Expr (.Call (.Attribute (.Name y py2) "append" apos) [arg] [] cpos) p3 :: ss) (mSeq (mAl g i n f) rest) :=
  ⟨PSs_imp (pss_cons (ps_set hN hi' hx (pe_ix ix_list hg hti hpi) hs hf) (pss_cons (ps_expr (pe_bm PySem.F.plainAttrs_list PySem.F.slot_list_append PySem.F.type_list_append mt_append hy (pa_cons hta pa_nil hst) hbase hfew hline hst hpl) hsw) hr.ps)) fun σ H D q => t_al hi ha hp q⟩
end
end Rf
/-! Rf, part K: calls by keywords alone. -/
namespace Rf
open PySem PySem.Spec PyProof.Rows L2
open Evl (Ex)
section
variable {X : Cx} {p : Pins} {W : WX}
structure RK (X : Cx) (p : Pins) (W : WX) (x : List Keyword) (m : M (List Op)) : Prop where
  pk : PK X x (tMA X.K p W m)
  len : ∀ e os e', m e = some (.ok os e') → os.length = x.length
theorem mCons_len {m : M Op} {ms : M (List Op)} {n : Nat} (h : ∀ e os e', ms e = some (.ok os e') → os.length = n) : ∀ e os e', mCons m ms e = some (.ok os e') → os.length = n + 1 := fun e os e' q => by
  unfold mCons M.bind at q
  split at q
  · cases q
  · rename_i o e1 h1
    dsimp only at q
    split at q
    · cases q
    · rename_i os' e2 h2
      cases q
      rw [List.length_cons, h _ _ _ h2]
    · cases q
  · cases q
theorem rk_nil : RK X p W [] mNil := ⟨⟨fun pos pins s σ H Q I h => pk_nil.run pos pins s σ H Q I (tMA_nil h)⟩, fun e os e' h => by cases h; rfl⟩
theorem rk_cons {nm : Option Str} {y : Expr} {kpos : Pos} {kws : List Keyword} {m : M Op} {ms : M (List Op)} (h : RE X p W y m) (hr : RK X p W kws ms) (hp : ∀ {ta : TE} {t : TA}, PE X y ta → PK X kws t → PK X (⟨nm, y, kpos⟩ :: kws) (tCons ta t) := by exact fun a b => pk_cons a b) : RK X p W (⟨nm, y, kpos⟩ :: kws) (mCons m ms) :=
  ⟨⟨fun pos pins s σ H Q I q => (hp h.pe hr.pk).run pos pins s σ H Q I (tMA_cons q)⟩, mCons_len hr.len⟩
abbrev Perm := {α : Type} → List α → List α
def mPerm (g : Perm) (ms : M (List Op)) : M (List Op) := ms.bind fun os e => some (.ok (g os) e)
theorem tMA_perm {K : PySem.W.Frag} {g : Perm} (hg : ∀ {α β : Type} {R : α → β → Prop} {as : List α} {bs : List β}, Paired R as bs → Paired R (g as) (g bs)) {ms : M (List Op)} {σ : L2.St} {H : Hp} {Q : List V → Hp → Prop} (q : tMA K p W (mPerm g ms) σ H Q) : tMA K p W ms σ H fun vs H' => Q (g vs) H' := by
  obtain ⟨e, Hs, fp, r, q⟩ := q
  exact ⟨e, Hs, fp, r, q.bind.imp (Stp.refl _ _ _) fun os e1 k1 vs H' Hs' fp' ro s1 => k1 (g vs) H' Hs' fp' ⟨ro.1, hg ro.2⟩ s1⟩
theorem kb_mk {K : PySem.W.Frag} {x qual : Str} {st : Stmt} {f : Addr} {fd : FuncData} {ps ks : List Str} (g : Perm) (F : Fun K x qual st f fd) (hg : ∀ {α β : Type} {R : α → β → Prop} {as : List α} {bs : List β}, Paired R as bs → Paired R (g as) (g bs))
    (h : ∀ (kV doc pm : Value) (an : Option Addr) (cdv ct : Value) (ws : List Value), ws.length = ks.length → bindArgs (PySem.W.fnOf x qual (defArgs st) (defBody st) (defScope st) .none kV doc pm an cdv ct) ⟨[], ks.zip ws⟩ = pure (ps.zip (g ws))) : KBn K fd ps 0 ks (fun _ ws => g ws) (fun _ ws => g ws) := by
  obtain ⟨oc, od, kV, doc, pm, an, cdv, ct, osl, rfl, lk, hcd⟩ := F.ex
  refine ⟨fun s us ws _ hu hw => ?_, fun _ r => hg r⟩
  cases List.eq_nil_of_length_eq_zero hu
  exact .of_eq (h kV doc pm an cdv ct ws hw)
def tCallN0 (sp : Sp) (gV : List V → List V → List V) (n : Nat) (E : L2.St → XK) (tk : TA) : TE := fun σ H Q => tk σ H fun zs H2 => zs.length = n ∧ sp (gV [] zs) H2 Q (E σ)
theorem run_fnK0 {CX : CXT} {k : Nat} {f : Addr} {fd : FuncData} {ps ks : List Str} {sp : Sp} {E : L2.St → XK} {g : List Value → List Value → List Value} {gV : List V → List V → List V} {pins : List (Addr × Obj)} {σ : L2.St} {H : Hp} {s : Shared} {Q : VK} {ws : List Value} {zs : List V} (F : FnOk X.prog X.w X.K X.mg X.base CX k f fd ps sp) (hr : Room k X.A) (hb : KBn X.K fd ps 0 ks g gV) (hx : PassesAt CX X σ (E σ))
    (I : Inv X pins σ H s) (rz : Vals zs ws) (hn : zs.length = ks.length) (h : sp (gV [] zs) H Q (E σ)) : wpAny (model X.prog X.w) X.A (call (.ref f) [] (ks.zip ws)) (EP X pins σ Q) X.xe s := by
  have r2 := hb.rel (vs := []) (us := []) .nil rz
  refine wpAny_call (codeAny_mono (F.run X.A X.stack s H ⟨[], ks.zip ws⟩ (g [] ws) (gV [] zs) Q (E σ) hr I.env0 (hb.to s [] ws I.kIn rfl (by rw [← rz.length]; exact hn)) r2 h) fun r s' hq => ?_)
  cases r with
  | error e => exact hx pins H s e s' I hq
  | ok fl =>
    cases fl with
    | ret u => exact I.after hq
    | next => exact False.elim hq
    | brk => exact False.elim hq
    | cont => exact False.elim hq
theorem pe_callN0 {CX : CXT} {k : Nat} {f : Addr} {fd : FuncData} {ps ks : List Str} {sp : Sp} {E : L2.St → XK} {x : Str} {pp pos : Pos} {kws : List Keyword} {tk : TA} {g : List Value → List Value → List Value} {gV : List V → List V → List V} (F : FnOk X.prog X.w X.K X.mg X.base CX k f fd ps sp) (hr : Room k X.A) (hg : Gl X x) (hm : X.mg x = some (.ref f)) (hk : PySem.W.keepIn X.K (.ref f) = true) (hb : KBn X.K fd ps 0 ks g gV) (hx : ∀ σ, PassesAt CX X σ (E σ)) (hkw : PK X kws tk)
    (hall : (backToKw pos (keywordEach kws X.env)).all (·.1.isSome) = true := by rfl) (hks : (backToKw pos (keywordEach kws X.env)).filterMap (·.1) = ks := by rfl) (hdb : (x == ("__debug__" : Str)) = false := by decide)
    (hpl : ((backTo pos (starEach [] X.env)).any (·.1) || (backToKw pos (keywordEach kws X.env)).any (·.1.isNone)) = false := by rfl) : PE X (.Call (.Name x pp) [] kws pos) (tCallN0 sp gV ks.length E tk) := by
  refine ⟨fun pins s σ H Q I h => ?_⟩
  refine wpAny_Call_Name_kw (ld_glob I hg hm ?_ hdb)
  refine PySem.W.callWith_KW0 (h₀ := X.base) I.ok.mod.kin hk hall ?_ hpl
  refine thn (hkw.run pos pins s σ H _ I h) fun ws s2 ⟨zs, H2, I2, rz, l1, q2⟩ => ⟨I2.kIn, ?_⟩
  rw [hks]
  exact run_fnK0 F hr hb (hx σ) I2 rz l1 q2
theorem re_callK {CX : CXT} {k : Nat} {f : Addr} {fd : FuncData} {ps ks : List Str} {x : Str} {pp pos : Pos} {kws : List Keyword} {G : List D → Option Ro} {ms : M (List Op)} (g : Perm) (hgl : ∀ {α : Type} (as : List α), as.length = ks.length → (g as).length = ks.length) (hg' : ∀ {α β : Type} {R : α → β → Prop} {as : List α} {bs : List β}, Paired R as bs → Paired R (g as) (g bs))
    (F : FnOk X.prog X.w X.K X.mg X.base CX k f fd ps (spOf X.K (List.replicate ks.length 0) G)) (hr : Room k X.A) (hg : Gl X x) (hm : X.mg x = some (.ref f)) (hk : PySem.W.keepIn X.K (.ref f) = true) (hb : KBn X.K fd ps 0 ks (fun _ ws => g ws) (fun _ ws => g ws)) (hx : ∀ σ, PassesAt CX X σ (WE W σ)) (ha : RK X p W kws ms) (hlen : kws.length = ks.length := by rfl)
    (hall : (backToKw pos (keywordEach kws X.env)).all (·.1.isSome) = true := by rfl) (hks : (backToKw pos (keywordEach kws X.env)).filterMap (·.1) = ks := by rfl) (hdb : (x == ("__debug__" : Str)) = false := by decide)
    (hpl : ((backTo pos (starEach [] X.env)).any (·.1) || (backToKw pos (keywordEach kws X.env)).any (·.1.isNone)) = false := by rfl) : RE X p W (.Call (.Name x pp) [] kws pos) (mCall G (mPerm g ms)) :=
  ⟨PE_imp (pe_callN0 (E := WE W) F hr hg hm hk hb hx ha.pk hall hks hdb hpl) fun σ H Q q => by
    have hl : ∀ e os e', mPerm g ms e = some (.ok os e') → os.length = ks.length := fun e os e' h => by
      unfold mPerm M.bind at h
      split at h
      · cases h
      · rename_i os' e1 h1
        cases h
        exact hgl os' (by rw [ha.len _ _ _ h1]; exact hlen)
      · cases h
    obtain ⟨e, Hs, fp, r, q⟩ := tMA_perm hg' (t_call hl q)
    exact ⟨e, Hs, fp, r, q.imp2 (Stp.refl _ _ _) fun os e' hos k vs H' Hs' fp' ro s => ⟨by rw [← ro.2.length, ha.len _ _ _ hos]; exact hlen, k vs H' Hs' fp' ro s⟩⟩⟩
/-- one keyword -/
abbrev pId : Perm := fun as => as
end
end Rf
/-! Rf, part L: what the printed terms name besides. -/
namespace Rf
open PySem PySem.Spec PyProof.Rows L2
open Evl (Ex)
theorem npl {p : Pins} {L vs : List Nat} (h : ∀ q ∈ p, q.1 ∈ L) (hi : ∀ i ∈ L, i ∉ vs) : ∀ q ∈ p, q.1 ∉ vs := fun q hq => hi _ (h q hq)
theorem pId_len {n : Nat} : ∀ {α : Type} (as : List α), as.length = n → (pId as).length = n := fun _ h => h
theorem pId_rel : ∀ {α β : Type} {R : α → β → Prop} {as : List α} {bs : List β}, Paired R as bs → Paired R (pId as) (pId bs) := fun h => h
section
variable {X : Cx} {p : Pins} {W : WX}
theorem re_last {op : BoolOp} {a : Expr} {pos : Pos} {m : M Op} (h : RE X p W a m) : RE X p W (.BoolOp op [a] pos) m := ⟨pe_one h.pe⟩
end
theorem fn_none {P : Program} {w : World} {K : PySem.W.Frag} {mg : Str → Option Value} {base : Heap} {CX : CXT} {k : Nat} {f : Addr} {fd : FuncData} {ps : List Str} {ks : List Nat} (hl : ks.length = ps.length) : FnOk P w K mg base CX k f fd ps (spOf K ks fun _ => none) where
  len := fun vs H Q E h => by obtain ⟨_, _, _, _, _, _, h⟩ := h; exact h.elim
  run := fun A outer s H args us vs Q E _ _ _ _ h => by obtain ⟨_, _, _, _, _, _, h⟩ := h; exact h.elim
theorem law_end {K : PySem.W.Frag} {G : List D → Option Ro} {ns : List Int} {H : Hp} {a : Addr} (h : ∃ k io, G [.kls (ns.map D.int)] = some (.ret (.bl true) k io)) (hS : SqL K H a (ns.map V.int)) : spOf K [0] G [.ref a] H (fun v _ => v = .bl true) fun _ _ _ => False := by
  obtain ⟨k, io, h⟩ := h
  refine ⟨[.kls (ns.map D.int)], H, [], Ex.refl _, List.nodup_nil, ⟨.ref a, [], [], [], rfl, rfl, ⟨a, _, rfl, rp_ints ns, hS, rfl⟩, rfl, rfl⟩, ?_⟩
  rw [h]
  intro v H' Hs' f g _ _ hr _ _
  exact hr.1
end Rf
/-! Rf, part S: how the functions of frames are reckoned. -/
namespace Rf
open PySem L2
@[simp] theorem ev_C (d : D) (e : En) : mC d e = some (.ok (.val d 0) e) := rfl
@[simp] theorem ev_V (i : Nat) (e : En) : mV i e = match e[i]? with | some (some _) => some (.ok (.sl i) e) | _ => none := rfl
@[simp] theorem ev_bind {α β : Type} (m : M α) (f : α → M β) (e : En) : M.bind m f e = match m e with | none => none | some (.ok a e') => f a e' | some (.exc C x e') => some (.exc C x e') := rfl
@[simp] theorem ev_nil (e : En) : mNil e = some (.ok [] e) := rfl
@[simp] theorem ev_cons (m : M Op) (ms : M (List Op)) (e : En) : mCons m ms e = (M.bind m fun o => ms.bind fun os e => some (.ok (frz o :: os) e)) e := rfl
@[simp] theorem ev_F (lim : Bool) (f : List D → Option (D × Nat)) (ms : M (List Op)) (e : En) : mF lim f ms e = (M.bind ms fun os e => oK (((pkL lim e os).bind f).map fun r => Op.val r.1 r.2) e) e := rfl
@[simp] theorem ev_oK {α : Type} (o : Option α) (e : En) : oK o e = match o with | none => none | some a => some (.ok a e) := rfl
@[simp] theorem frz_sl (i : Nat) : frz (.sl i) = .sl i := rfl
@[simp] theorem frz_val (d : D) (k : Nat) : frz (.val d k) = .val d 0 := rfl
@[simp] theorem pk_val (e : En) (d : D) (k : Nat) : pk e (.val d k) = some (d, k) := rfl
@[simp] theorem pk_slot (e : En) (i : Nat) : pk e (.sl i) = match e[i]? with | some (some x) => some x | _ => none := rfl
@[simp] theorem pkL_nil (lim : Bool) (e : En) : pkL lim e [] = some [] := rfl
@[simp] theorem pkL_cons (lim : Bool) (e : En) (o : Op) (os : List Op) : pkL lim e (o :: os) = match pk e o with | none => none | some (d, k) => if lim && decide (1 < k) then none else match pkL lim e os with | none => none | some ds => some (d :: ds) := rfl
@[simp] theorem ev_seq (m n : M Fl) (e : En) : mSeq m n e = match m e with | none => none | some (.ok .nx e') => n e' | some (.ok f e') => some (.ok f e') | some (.exc C x e') => some (.exc C x e') := by
  unfold mSeq M.bind
  cases m e with
  | none => rfl
  | some r => cases r with
    | ok f e' => cases f <;> rfl
    | exc _ _ _ => rfl
@[simp] theorem ev_nx (e : En) : mNx e = some (.ok .nx e) := rfl
@[simp] theorem ev_pure (f : Fl) (e : En) : mPure f e = some (.ok f e) := rfl
@[simp] theorem ev_if (c : M Bool) (a b : M Fl) (e : En) : mIf c a b e = match c e with | none => none | some (.ok t e') => if t = true then a e' else b e' | some (.exc C x e') => some (.exc C x e') := by
  unfold mIf M.bind
  cases c e with
  | none => rfl
  | some r => cases r with
    | ok t e' => cases t <;> rfl
    | exc _ _ _ => rfl
@[simp] theorem ev_ifE (c : M Bool) (a b : M Op) (e : En) : mIfE c a b e = match c e with | none => none | some (.ok t e') => if t = true then a e' else b e' | some (.exc C x e') => some (.exc C x e') := by
  unfold mIfE M.bind
  cases c e with
  | none => rfl
  | some r => cases r with
    | ok t e' => cases t <;> rfl
    | exc _ _ _ => rfl
@[simp] theorem ev_T (m : M Op) (e : En) : mT m e = match m e with | none => none | some (.ok (.val (.bl b) _) e') => some (.ok b e') | some (.ok _ _) => none | some (.exc C x e') => some (.exc C x e') := by
  unfold mT M.bind
  cases m e with
  | none => rfl
  | some r => cases r with
    | ok o e' => cases o with
      | sl i => rfl
      | val d k => cases d <;> rfl
    | exc _ _ _ => rfl
@[simp] theorem ev_Tru (m : M Op) (e : En) : mTru m e = (M.bind m fun o e => oK ((pk e (frz o)).bind fun x => tru x.1) e) e := rfl
@[simp] theorem ev_not (m : M Bool) (e : En) : mNot m e = match m e with | none => none | some (.ok t e') => some (.ok (!t) e') | some (.exc C x e') => some (.exc C x e') := by
  unfold mNot M.bind
  cases m e with
  | none => rfl
  | some r => cases r <;> rfl
@[simp] theorem ev_and (a b : M Bool) (e : En) : mAnd a b e = match a e with | none => none | some (.ok t e') => if t = true then b e' else some (.ok false e') | some (.exc C x e') => some (.exc C x e') := by
  unfold mAnd M.bind
  cases a e with
  | none => rfl
  | some r => cases r with
    | ok t e' => cases t <;> rfl
    | exc _ _ _ => rfl
@[simp] theorem ev_or (a b : M Bool) (e : En) : mOr a b e = match a e with | none => none | some (.ok t e') => if t = true then some (.ok true e') else b e' | some (.exc C x e') => some (.exc C x e') := by
  unfold mOr M.bind
  cases a e with
  | none => rfl
  | some r => cases r with
    | ok t e' => cases t <;> rfl
    | exc _ _ _ => rfl
@[simp] theorem ev_asg (i : Nat) (m : M Op) (e : En) : mAsg i m e = (match m e with | none => none | some (.ok (.val d k) e') => (if i < e'.length then some (.ok .nx (e'.set i (some (d, k)))) else none) | some (.ok (.sl j) e') => (match e'[j]? with | some (some (d, _)) => (if i < e'.length then some (.ok .nx ((e'.set j (some (d, 0))).set i (some (d, 0)))) else none) | _ => none) | some (.exc C x e') => some (.exc C x e')) := by
  unfold mAsg M.bind
  cases m e with
  | none => rfl
  | some r => cases r with
    | exc _ _ _ => rfl
    | ok o e' => cases o with
      | val d k =>
        simp only [tk, M.bind, stS]
        by_cases h : i < e'.length <;> simp [h, mNx]
      | sl j =>
        simp only [tk, M.bind, stS]
        cases h : e'[j]? with
        | none => simp
        | some y => cases y with
          | none => simp
          | some z =>
            obtain ⟨d, k⟩ := z
            by_cases h' : i < e'.length <;> simp [h', mNx]
@[simp] theorem ev_ret (m : M Op) (e : En) : mRet m e = (match m e with | none => none | some (.ok (.val d k) e') => some (.ok (.ret d k) e') | some (.ok (.sl i) e') => (match e'[i]? with | some (some (d, k)) => some (.ok (.ret d k) (if k = 0 then e' else e'.set i none)) | _ => none) | some (.exc C x e') => some (.exc C x e')) := by
  unfold mRet M.bind
  cases m e with
  | none => rfl
  | some r => cases r with
    | exc _ _ _ => rfl
    | ok o e' => cases o <;> rfl
@[simp] theorem ev_expr (m : M Op) (e : En) : mExpr m e = match m e with | none => none | some (.ok _ e') => some (.ok .nx e') | some (.exc C x e') => some (.exc C x e') := by
  unfold mExpr M.bind
  cases m e with
  | none => rfl
  | some r => cases r <;> rfl
@[simp] theorem ev_lst (ms : M (List Op)) (e : En) : mLst ms e = match mFz ms e with | none => none | some (.ok ds e') => if ds.length ≤ sizeLine then some (.ok (.val (.lst ds) 1) e') else none | some (.exc C x e') => some (.exc C x e') := by
  unfold mLst M.bind
  cases mFz ms e with
  | none => rfl
  | some r => cases r <;> rfl
@[simp] theorem ev_tup (ms : M (List Op)) (e : En) : mTup ms e = match mFz ms e with | none => none | some (.ok ds e') => if ds.length ≤ sizeLine then some (.ok (.val (.tup ds) 0) e') else none | some (.exc C x e') => some (.exc C x e') := by
  unfold mTup M.bind
  cases mFz ms e with
  | none => rfl
  | some r => cases r <;> rfl
@[simp] theorem ev_fz (ms : M (List Op)) (e : En) : mFz ms e = (M.bind ms fun os e => if anyOwn (frzAll e os) os = true then none else oK (ag0 (frzAll e os) os) (frzAll e os)) e := rfl
@[simp] theorem frzAll_nil (e : En) : frzAll e [] = e := rfl
@[simp] theorem frzAll_val (e : En) (d : D) (k : Nat) (os : List Op) : frzAll e (.val d k :: os) = frzAll e os := rfl
@[simp] theorem frzAll_sl (e : En) (i : Nat) (os : List Op) : frzAll e (.sl i :: os) = frzAll (match e[i]? with | some (some (d, _)) => e.set i (some (d, 0)) | _ => e) os := rfl
@[simp] theorem ag0_nil (e : En) : ag0 e [] = some [] := rfl
@[simp] theorem ag0_cons (e : En) (o : Op) (os : List Op) : ag0 e (o :: os) = (pk e o).bind fun x => (ag0 e os).map (x.1 :: ·) := rfl
@[simp] theorem anyOwn_nil (e : En) : anyOwn e [] = false := rfl
@[simp] theorem anyOwn_cons (e : En) (o : Op) (os : List Op) : anyOwn e (o :: os) = ((match pk e o with | some (_, 0) => false | _ => true) || anyOwn e os) := rfl
@[simp] theorem en0_cons (n k : Nat) (ks : List Nat) (d : D) (ds : List D) : en0 n (k :: ks) (d :: ds) = some (d, k) :: en0 (n - 1) ks ds := rfl
@[simp] theorem en0_nil (n : Nat) : en0 n [] [] = List.replicate n none := rfl
end Rf
/-! Rf, part M: sizes, items, loops, reckoned. -/
namespace Rf
open PySem L2
theorem fit_of {n : Nat} {i : Int} (B : Nat) (h1 : -(B : Int) ≤ i) (h2 : i ≤ B) (h : B < 2 ^ n) : fitB n i = true := by
  unfold fitB
  apply decide_eq_true
  omega
theorem fit_mul {a b n : Nat} {i j : Int} (h1 : fitB a i = true) (h2 : fitB b j = true) (h : a + b ≤ n) : fitB n (i * j) = true := by
  unfold fitB at *
  have h1 := of_decide_eq_true h1
  have h2 := of_decide_eq_true h2
  apply decide_eq_true
  rw [Int.natAbs_mul]
  refine Nat.lt_of_lt_of_le (Nat.mul_lt_mul'' h1 h2) ?_
  rw [← Nat.pow_add]
  exact Nat.pow_le_pow_right (by decide) h
@[simp] theorem ixN_nat (n i : Nat) : ixN n (i : Int) = if i < n then some i else none := by
  unfold ixN
  simp
@[simp] theorem atI_nat {α : Type} (xs : List α) (i : Nat) : atI xs (i : Int) = xs[i]? := by
  unfold atI
  rw [ixN_nat]
  by_cases h : i < xs.length
  · simp [h]
  · simp [h]
theorem atI_pos {α : Type} (xs : List α) {i : Int} (h : 0 ≤ i) : atI xs i = xs[i.toNat]? := by
  obtain ⟨n, rfl⟩ := Int.eq_ofNat_of_zero_le h
  exact atI_nat xs n
theorem ixN_pos {n : Nat} {i : Int} (h : 0 ≤ i) (h2 : i < n) : ixN n i = some i.toNat := by
  unfold ixN
  rw [if_pos h, if_pos h2]
theorem ixN_last {n : Nat} (h : 0 < n) : ixN n (-1) = some (n - 1) := by
  unfold ixN
  rw [if_neg (by decide), if_pos (by omega)]
  congr 1
  omega
@[simp] theorem at0 {α : Type} (x : α) (xs : List α) : atI (x :: xs) 0 = some x := by rw [atI_pos _ (by decide)]; rfl
@[simp] theorem at1 {α : Type} (x y : α) (xs : List α) : atI (x :: y :: xs) 1 = some y := by rw [atI_pos _ (by decide)]; rfl
@[simp] theorem at2 {α : Type} (x y z : α) (xs : List α) : atI (x :: y :: z :: xs) 2 = some z := by rw [atI_pos _ (by decide)]; rfl
@[simp] theorem eqD_int (a b : Int) : eqD (.int a) (.int b) = some (decide (a = b)) := by simp [eqD, scalD]
@[simp] theorem eqD_str (a b : Str) : eqD (.str a) (.str b) = some (decide (a = b)) := by simp [eqD, scalD]
@[simp] theorem eqD_bl (a b : Bool) : eqD (.bl a) (.bl b) = some (decide (a = b)) := by simp [eqD, scalD]
theorem eqD_lay {d e : D} (h : scalD d e = false) (h1 : lay 6 d = true) (h2 : lay 6 e = true) : eqD d e = some (decide (d = e)) := by simp [eqD, h, h1, h2]
@[simp] theorem dEq_eq (a b : D) : dEq [a, b] = (eqD a b).map fun r => (.bl r, 0) := rfl
@[simp] theorem dNe_eq (a b : D) : dNe [a, b] = (eqD a b).map fun r => (.bl (!r), 0) := rfl
@[simp] theorem dAdd_int (i j : Int) : dAdd [.int i, .int j] = some (.int (i + j), 0) := rfl
@[simp] theorem dSub_int (i j : Int) : dSub [.int i, .int j] = some (.int (i - j), 0) := rfl
@[simp] theorem dNeg_int (i : Int) : dNeg [.int i] = some (.int (-i), 0) := rfl
@[simp] theorem dMul_int (i j : Int) : dMul [.int i, .int j] = if (fitB 60 i || fitB 60 j || (fitB 4000 i && fitB 4000 j)) = true then some (.int (i * j), 0) else none := rfl
@[simp] theorem dDiv_int (i j : Int) : dDiv [.int i, .int j] = if 0 < j ∧ fitB 4000 j = true then some (.int (i / j), 0) else none := rfl
@[simp] theorem dMod_int (i j : Int) : dMod [.int i, .int j] = if 0 < j then some (.int (i % j), 0) else none := rfl
@[simp] theorem dInt_int (i : Int) : dInt [.int i] = some (.int i, 0) := rfl
@[simp] theorem dAbs_int (i : Int) : dAbs [.int i] = some (.int (if i < 0 then -i else i), 0) := rfl
@[simp] theorem dFmt_str (y : Str) : dFmt [.str y] = if y.length ≤ sizeLine then some (.str y, 0) else none := rfl
@[simp] theorem dLen_lst (ds : List D) : dLen [.lst ds] = some (.int ds.length, 0) := rfl
@[simp] theorem dLen_kls (ds : List D) : dLen [.kls ds] = some (.int ds.length, 0) := rfl
@[simp] theorem dLen_tup (ds : List D) : dLen [.tup ds] = some (.int ds.length, 0) := rfl
@[simp] theorem dItem_lst (ds : List D) (i : Int) : dItem [.lst ds, .int i] = (atI ds i).map fun d => (d, 0) := rfl
@[simp] theorem dItem_kls (ds : List D) (i : Int) : dItem [.kls ds, .int i] = (atI ds i).map fun d => (d, 0) := rfl
@[simp] theorem dItem_tup (ds : List D) (i : Int) : dItem [.tup ds, .int i] = (atI ds i).map fun d => (d, 0) := rfl
@[simp] theorem dList_lst (ds : List D) : dList [.lst ds] = some (.lst ds, 1) := rfl
@[simp] theorem dAdd_lst (xs ys : List D) : dAdd [.lst xs, .lst ys] = if xs.length + ys.length ≤ sizeLine then some (.lst (xs ++ ys), 1) else none := rfl
@[simp] theorem dAdd_str (x y : Str) : dAdd [.str x, .str y] = if x.length + y.length ≤ sizeLine then some (.str (x ++ y), 0) else none := rfl
@[simp] theorem dCmp_int (f : Int → Int → Bool) (g : List Nat → List Nat → Bool) (i j : Int) : dCmp f g [.int i, .int j] = some (.bl (f i j), 0) := rfl
@[simp] theorem frz_op : ∀ o : Op, frz (frz o) = frz o := frz_frz
@[simp] theorem pow18 : dPow [.int 10, .int 18] = some (.int (10 ^ 18), 0) := by decide
@[simp] theorem pow39 : dPow [.int 10, .int 39] = some (.int (10 ^ 39), 0) := by decide
@[simp] theorem pow30 : dPow [.int 10, .int 30] = some (.int (10 ^ 30), 0) := by decide
/-! ### comprehensions -/
def lcStep (own : List Nat) (ck : Nat) (t : D → En → Option En) (tt : M Bool) (te : M Op) (d : D) (e : En) : Option (List D × En) := match t d e with
  | none => none
  | some e1 => match tt e1 with
    | some (.ok true e2) => (match (te.bind tk) e2 with
      | some (.ok x e3) => if ck = 0 ∨ x.2 = ck then some ([x.1], wipeE e3 own) else none
      | _ => none)
    | some (.ok false e2) => some ([], wipeE e2 own)
    | _ => none
theorem lc_step {own : List Nat} {ck : Nat} {t : D → En → Option En} {tt : M Bool} {te : M Op} {d : D} {r acc xs : List D} {e e' : En} (h : lcStep own ck t tt te d e = some (xs, e')) (ha : acc.length < sizeLine) : lcLoop own ck t tt te (d :: r) acc e = lcLoop own ck t tt te r (acc ++ xs) e' := by
  unfold lcStep at h
  conv => lhs; unfold lcLoop
  cases h1 : t d e with
  | none => rw [h1] at h; cases h
  | some e1 =>
    rw [h1] at h
    dsimp only at h ⊢
    unfold M.bind noX
    cases h2 : tt e1 with
    | none => rw [h2] at h; cases h
    | some q =>
      rw [h2] at h
      cases q with
      | exc _ _ _ => cases h
      | ok b e2 =>
        cases b with
        | false =>
          dsimp only at h ⊢
          cases h
          simp
        | true =>
          dsimp only at h ⊢
          simp only [if_true]
          unfold M.bind at h
          cases h3 : te e2 with
          | none => rw [h3] at h; cases h
          | some q =>
            rw [h3] at h
            cases q with
            | exc _ _ _ => cases h
            | ok o e3 =>
              dsimp only at h ⊢
              cases h4 : tk o e3 with
              | none => rw [h4] at h; cases h
              | some q =>
                rw [h4] at h
                cases q with
                | exc _ _ _ => cases h
                | ok x e4 =>
                  dsimp only at h ⊢
                  by_cases hk : ck = 0 ∨ x.2 = ck
                  · rw [if_pos hk] at h
                    cases h
                    rw [if_pos ⟨ha, hk⟩]
                  · rw [if_neg hk] at h; cases h
/-- a comprehension goes on from state to state -/
theorem lc_inv {own : List Nat} {ck : Nat} {t : D → En → Option En} {tt : M Bool} {te : M Op} (I : Nat → List D → En → Prop) : ∀ {ds : List D} (j : Nat) (acc : List D) (e : En), (∀ i d acc e, ds[i]? = some d → I (j + i) acc e → ∃ xs e', lcStep own ck t tt te d e = some (xs, e') ∧ xs.length ≤ 1 ∧ I (j + i + 1) (acc ++ xs) e') →
    acc.length + ds.length ≤ sizeLine → I j acc e → ∃ acc' e', lcLoop own ck t tt te ds acc e = some (.ok acc' e') ∧ I (j + ds.length) acc' e'
  | [], j, acc, e, _, _, h => ⟨acc, e, rfl, h⟩
  | d :: r, j, acc, e, hs, hl, h => by
    obtain ⟨xs, e1, h1, h2, h3⟩ := hs 0 d acc e rfl h
    simp only [List.length_cons] at hl
    obtain ⟨acc', e', h4, h5⟩ := lc_inv I (ds := r) (j + 1) (acc ++ xs) e1 (fun i d acc e hd hI => by
      have := hs (i + 1) d acc e (by simpa using hd) (by rw [show j + (i + 1) = j + 1 + i from by omega]; exact hI)
      rw [show j + (i + 1) + 1 = j + 1 + i + 1 from by omega] at this
      exact this) (by rw [List.length_append]; omega) h3
    exact ⟨acc', e', by rw [lc_step h1 (by omega)]; exact h4, by rw [List.length_cons, show j + (r.length + 1) = j + 1 + r.length from by omega]; exact h5⟩
theorem mLc_inv {own : List Nat} {ck : En → Nat} {mi : M (List D)} {t : D → En → Option En} {tt : M Bool} {te : M Op} {e e0 : En} {ds : List D} (I : Nat → List D → En → Prop) (hm : mi e = some (.ok ds e0)) (hl : ds.length ≤ sizeLine) (h0 : I 0 [] (wipeE e0 own))
    (hs : ∀ i d acc e, ds[i]? = some d → I i acc e → ∃ xs e', lcStep own (ck e0) t tt te d e = some (xs, e') ∧ xs.length ≤ 1 ∧ I (i + 1) (acc ++ xs) e') : ∃ acc' e', mLc own ck mi t tt te e = some (.ok (.val (.lst acc') (ck e0 + 1)) (restE e0 own e')) ∧ I ds.length acc' e' := by
  obtain ⟨acc', e', h1, h2⟩ := lc_inv (t := t) (tt := tt) (te := te) I (ds := ds) 0 [] (wipeE e0 own) (by simpa using hs) (by simpa using hl) h0
  refine ⟨acc', e', ?_, by simpa using h2⟩
  unfold mLc M.bind
  rw [hm]
  dsimp only
  rw [h1]
/-- .. each item read alone -/
theorem mLc_map {own : List Nat} {ck : En → Nat} {mi : M (List D)} {t : D → En → Option En} {tt : M Bool} {te : M Op} {e e0 e1 : En} {ds : List D} (f : D → D) (hm : mi e = some (.ok ds e0)) (hl : ds.length ≤ sizeLine) (h0 : wipeE e0 own = e1)
    (hs : ∀ d ∈ ds, lcStep own (ck e0) t tt te d e1 = some ([f d], e1)) : mLc own ck mi t tt te e = some (.ok (.val (.lst (ds.map f)) (ck e0 + 1)) (restE e0 own e1)) := by
  obtain ⟨acc', e', h1, h2⟩ := mLc_inv (ck := ck) (t := t) (tt := tt) (te := te) (fun i acc e => acc = (ds.take i).map f ∧ e = e1) hm hl ⟨rfl, h0⟩ fun i d acc e hd hI => by
    obtain ⟨rfl, rfl⟩ := hI
    refine ⟨[f d], e, hs d (List.mem_of_getElem? hd), Nat.le_refl _, ?_, rfl⟩
    rw [List.take_add_one, hd]
    simp
  obtain ⟨rfl, rfl⟩ := h2
  rw [h1, List.take_length]
/-- .. with a test -/
theorem mLc_flat {own : List Nat} {ck : En → Nat} {mi : M (List D)} {t : D → En → Option En} {tt : M Bool} {te : M Op} {e e0 e1 : En} {ds : List D} (f : D → List D) (hm : mi e = some (.ok ds e0)) (hl : ds.length ≤ sizeLine) (h0 : wipeE e0 own = e1)
    (hs : ∀ d ∈ ds, lcStep own (ck e0) t tt te d e1 = some (f d, e1)) (h1 : ∀ d ∈ ds, (f d).length ≤ 1) : mLc own ck mi t tt te e = some (.ok (.val (.lst (ds.flatMap f)) (ck e0 + 1)) (restE e0 own e1)) := by
  obtain ⟨acc', e', h1, h2⟩ := mLc_inv (ck := ck) (t := t) (tt := tt) (te := te) (fun i acc e => acc = (ds.take i).flatMap f ∧ e = e1) hm hl ⟨rfl, h0⟩ fun i d acc e hd hI => by
    obtain ⟨rfl, rfl⟩ := hI
    have hm := List.mem_of_getElem? hd
    refine ⟨f d, e, hs d hm, h1 d hm, ?_, rfl⟩
    rw [List.take_add_one, hd]
    simp
  obtain ⟨rfl, rfl⟩ := h2
  rw [h1, List.take_length]
/-! ### for -/
/-- a turn of a loop that goes on -/
def fStep (t : D → En → Option En) (mb : M Fl) (d : D) (e : En) : Option En := match t d e with
  | none => none
  | some e1 => match mb e1 with
    | some (.ok .nx e2) => some e2
    | some (.ok .ct e2) => some e2
    | _ => none
theorem f_step {t : D → En → Option En} {mb : M Fl} {d : D} {r : List D} {e e' : En} (h : fStep t mb d e = some e') : mLoop t mb (d :: r) e = mLoop t mb r e' := by
  unfold fStep at h
  conv => lhs; unfold mLoop
  cases h1 : t d e with
  | none => rw [h1] at h; cases h
  | some e1 =>
    rw [h1] at h
    dsimp only at h ⊢
    unfold M.bind
    cases h2 : mb e1 with
    | none => rw [h2] at h; cases h
    | some q =>
      rw [h2] at h
      cases q with
      | exc _ _ _ => cases h
      | ok f e2 => cases f <;> cases h <;> rfl
theorem f_inv {t : D → En → Option En} {mb : M Fl} (I : Nat → En → Prop) : ∀ {ds : List D} (j : Nat) (e : En), (∀ i d e, ds[i]? = some d → I (j + i) e → ∃ e', fStep t mb d e = some e' ∧ I (j + i + 1) e') →
    I j e → ∃ e', mLoop t mb ds e = some (.ok .nx e') ∧ I (j + ds.length) e'
  | [], j, e, _, h => ⟨e, rfl, h⟩
  | d :: r, j, e, hs, h => by
    obtain ⟨e1, h1, h3⟩ := hs 0 d e rfl h
    obtain ⟨e', h4, h5⟩ := f_inv I (ds := r) (j + 1) e1 (fun i d e hd hI => by
      have := hs (i + 1) d e (by simpa using hd) (by rw [show j + (i + 1) = j + 1 + i from by omega]; exact hI)
      rw [show j + (i + 1) + 1 = j + 1 + i + 1 from by omega] at this
      exact this) h3
    exact ⟨e', by rw [f_step h1]; exact h4, by rw [List.length_cons, show j + (r.length + 1) = j + 1 + r.length from by omega]; exact h5⟩
theorem mFor_inv {mi : M (List D)} {t : D → En → Option En} {mb : M Fl} {e e0 : En} {ds : List D} (I : Nat → En → Prop) (hm : mi e = some (.ok ds e0)) (h0 : I 0 e0)
    (hs : ∀ i d e, ds[i]? = some d → I i e → ∃ e', fStep t mb d e = some e' ∧ I (i + 1) e') : ∃ e', mFor mi t mb e = some (.ok .nx e') ∧ I ds.length e' := by
  obtain ⟨e', h1, h2⟩ := f_inv (t := t) (mb := mb) I (ds := ds) 0 e0 (by simpa using hs) h0
  refine ⟨e', ?_, by simpa using h2⟩
  unfold mFor M.bind
  rw [hm]
  exact h1
@[simp] theorem tk_val (d : D) (k : Nat) (e : En) : tk (.val d k) e = some (.ok (d, k) e) := rfl
@[simp] theorem ev_iL (m : M Op) (e : En) : iL m e = (M.bind m itL) e := rfl
@[simp] theorem itL_val (ds : List D) (k : Nat) (e : En) : itL (.val (.lst ds) k) e = some (.ok ds e) := rfl
@[simp] theorem itL_kls (ds : List D) (k : Nat) (e : En) : itL (.val (.kls ds) k) e = some (.ok ds e) := rfl
@[simp] theorem itL_sl (i : Nat) (e : En) : itL (.sl i) e = match e[i]? with | some (some (.lst ds, k)) => some (.ok ds (e.set i (some (.lst ds, 0)))) | some (some (.kls ds, _)) => some (.ok ds e) | _ => none := rfl
@[simp] theorem ev_gN (i : Nat) (d : D) (e : En) : gN i d e = if i < e.length then some (e.set i (some (d, 0))) else none := rfl
@[simp] theorem ev_mYes (e : En) : mYes e = some (.ok true e) := rfl
@[simp] theorem ev_gT (t : List D → En → Option En) (ds : List D) (e : En) : gT t (.tup ds) e = t ds e := rfl
@[simp] theorem wipe_nil (e : En) : wipeE e [] = e := rfl
@[simp] theorem wipe_cons (e : En) (v : Nat) (vs : List Nat) : wipeE e (v :: vs) = (wipeE e vs).set v none := rfl
@[simp] theorem rest_nil (e0 e : En) : restE e0 [] e = e := rfl
@[simp] theorem rest_cons (e0 e : En) (i : Nat) (r : List Nat) : restE e0 (i :: r) e = restE e0 r (match e0[i]? with | some (some (d, 0)) => e.set i (some (d, 0)) | _ => e) := rfl
theorem mLc_of {α : Type} {own : List Nat} {ck : En → Nat} {mi : M (List D)} {t : D → En → Option En} {tt : M Bool} {te : M Op} {e e0 e1 : En} (xs : List α) (g f : α → D) (hm : mi e = some (.ok (xs.map g) e0)) (hl : xs.length ≤ sizeLine) (h0 : wipeE e0 own = e1)
    (hs : ∀ x ∈ xs, lcStep own (ck e0) t tt te (g x) e1 = some ([f x], e1)) : mLc own ck mi t tt te e = some (.ok (.val (.lst (xs.map f)) (ck e0 + 1)) (restE e0 own e1)) := by
  obtain ⟨acc', e', h1, h2⟩ := mLc_inv (ck := ck) (t := t) (tt := tt) (te := te) (fun i acc e => acc = (xs.take i).map f ∧ e = e1) hm (by simpa using hl) ⟨rfl, h0⟩ fun i d acc e hd hI => by
    obtain ⟨rfl, rfl⟩ := hI
    rw [List.getElem?_map] at hd
    obtain ⟨x, hx, rfl⟩ := Option.map_eq_some_iff.mp hd
    refine ⟨[f x], e, hs x (List.mem_of_getElem? hx), Nat.le_refl _, ?_, rfl⟩
    rw [List.take_add_one, hx]
    simp
  obtain ⟨rfl, rfl⟩ := h2
  rw [h1, List.length_map, List.take_length]
@[simp] theorem ev_gsNil (e : En) : gsNil [] e = some e := rfl
@[simp] theorem ev_gsCons (t : D → En → Option En) (ts : List D → En → Option En) (d : D) (r : List D) (e : En) : gsCons t ts (d :: r) e = match t d e with | none => none | some e' => ts r e' := rfl
@[simp] theorem ev_call (G : List D → Option Ro) (ms : M (List Op)) (e : En) : mCall G ms e = (M.bind ms fun os e => match ag0 e os with
  | none => none
  | some ds => match G ds with
    | none => none
    | some (.ret d k _) => (callEn e os ds (reg d k)).map fun e' => .ok (.val d k) e'
    | some (.exc C x _) => if reg x 0 = true then some (.exc C x e) else none) e := rfl
@[simp] theorem callEn_true (e : En) (os : List Op) (ds : List D) : callEn e os ds true = some e := rfl
@[simp] theorem callEn_false (e : En) (os : List Op) (ds : List D) : callEn e os ds false = if (!anyOwn e os) = true then some e else if ag0 (frzAll e os) os = some ds ∧ anyOwn (frzAll e os) os = false then some (frzAll e os) else none := rfl
@[simp] theorem reg_non (k : Nat) : reg .non k = true := by unfold reg; rfl
@[simp] theorem reg_bl (b : Bool) (k : Nat) : reg (.bl b) k = true := by unfold reg; rfl
@[simp] theorem reg_int (i : Int) (k : Nat) : reg (.int i) k = true := by unfold reg; rfl
@[simp] theorem reg_str (x : Str) (k : Nat) : reg (.str x) k = true := by unfold reg; rfl
@[simp] theorem reg_lst (ds : List D) (k : Nat) : reg (.lst ds) k = (decide (0 < k) && regL ds (k - 1)) := by conv => lhs; unfold reg
@[simp] theorem reg_tup (ds : List D) (k : Nat) : reg (.tup ds) k = regL ds (k - 1) := by conv => lhs; unfold reg
@[simp] theorem regL_nil (k : Nat) : regL [] k = true := by unfold regL; rfl
@[simp] theorem regL_cons (d : D) (ds : List D) (k : Nat) : regL (d :: ds) k = (reg d k && regL ds k) := by conv => lhs; unfold regL
theorem regL_map {α : Type} (g : α → D) (xs : List α) (k : Nat) (h : ∀ x ∈ xs, reg (g x) k = true) : regL (xs.map g) k = true := by
  induction xs with
  | nil => simp
  | cons x xs ih => simp [h x (by simp), ih fun y hy => h y (List.mem_cons_of_mem _ hy)]
@[simp] theorem regL_ints (xs : List Int) (k : Nat) : regL (xs.map D.int) k = true := regL_map _ _ _ fun x _ => by simp
@[simp] theorem ev_call1 (i k : Nat) (G : List D → Option Ro) (ms : M (List Op)) (e : En) : mCall1 i k G ms e = (M.bind ms fun os e => match os[i]? with
  | some (.sl j) => (match e[j]? with
    | some (some (dI, k')) => if k' = k ∧ 0 < k then (match agI (e.set j none) dI i os with
        | none => none
        | some ds => (match G ds with
          | none => none
          | some (.ret d kd io) => (match io[i]? with
            | none => none
            | some dI' => (callEnI (e.set j none) os i dI ds (reg d kd && reg dI' k)).map fun e' => .ok (.val d kd) (e'.set j (some (dI', k))))
          | some (.exc C x io) => (match io[i]? with
            | none => none
            | some dI' => if (reg x 0 && reg dI' k) = true then some (.exc C x ((e.set j none).set j (some (dI', k)))) else none)))
      else none
    | _ => none)
  | _ => none) e := rfl
@[simp] theorem agI_zero (e : En) (d : D) (o : Op) (os : List Op) : agI e d 0 (o :: os) = (ag0 e os).map (d :: ·) := rfl
@[simp] theorem agI_succ (e : En) (d : D) (i : Nat) (o : Op) (os : List Op) : agI e d (i + 1) (o :: os) = (pk e o).bind fun x => (agI e d i os).map (x.1 :: ·) := rfl
@[simp] theorem agI_one (e : En) (d : D) (o : Op) (os : List Op) : agI e d 1 (o :: os) = (pk e o).bind fun x => (agI e d 0 os).map (x.1 :: ·) := rfl
@[simp] theorem callEnI_true (e : En) (os : List Op) (i : Nat) (dI : D) (ds : List D) : callEnI e os i dI ds true = some e := rfl
/-! ### texts -/
def sI (i : Int) : Str := Str.ofString (toString i)
theorem sI_len {i : Int} {k : Nat} (hk : 0 < k) (h : i.natAbs < 10 ^ k) : (sI i).length ≤ k + 1 := by
  have := int_text_length_le10 hk h
  unfold sI
  rw [ofString_length]
  exact this
@[simp] theorem dStr_sI (i : Int) : dStr [.int i] = if fitB 1000 i = true then some (.str (sI i), 0) else none := rfl
@[simp] theorem dFmt_sI (i : Int) : dFmt [.int i] = if fitB 1000 i = true then some (.str (sI i), 0) else none := rfl
theorem dJoin_eq {a : Str} {ys : List Str} (h : (ys.map (·.length)).sum + ys.length * a.length ≤ 16777216) : dJoin [.str a, .lst (ys.map D.str)] = some (.str (Str.join a ys), 0) := by
  show ((asStrs (ys.map D.str)).bind fun ys => if joinB a ys = true then some (D.str (Txt.join a ys), 0) else none) = _
  rw [asStrs_map]
  show (if joinB a ys = true then some (D.str (Txt.join a ys), 0) else none) = _
  unfold joinB
  rw [if_pos (decide_eq_true h)]
  unfold Txt.join
  rw [StrLaws.glued_eq_join]
theorem sum_le {ys : List Str} {B : Nat} (h : ∀ y ∈ ys, y.length ≤ B) : (ys.map (·.length)).sum ≤ ys.length * B := by
  induction ys with
  | nil => simp
  | cons y ys ih =>
    have h1 := h y (by simp)
    have h2 := ih fun z hz => h z (List.mem_cons_of_mem _ hz)
    simp only [List.map_cons, List.sum_cons, List.length_cons, Nat.add_mul, Nat.one_mul]
    omega
/-- texts of at most B characters, n of them -/
theorem join_ok {a : Str} {ys : List Str} (n B : Nat) (h : ∀ y ∈ ys, y.length ≤ B) (hn : ys.length ≤ n) (hb : n * B + n * a.length ≤ 16777216 := by decide) : dJoin [.str a, .lst (ys.map D.str)] = some (.str (Str.join a ys), 0) := dJoin_eq (by
  have h1 := sum_le h
  have h2 := Nat.mul_le_mul_right B hn
  have h3 := Nat.mul_le_mul_right a.length hn
  omega)
theorem join_len {a : Str} {ys : List Str} (n B : Nat) (h : ∀ y ∈ ys, y.length ≤ B) (hn : ys.length ≤ n) : (Str.join a ys).length ≤ n * B + n * a.length := by
  have h0 := StrLaws.join_length_le a ys
  have h1 := sum_le h
  have h2 := Nat.mul_le_mul_right B hn
  have h3 := Nat.mul_le_mul_right a.length hn
  omega
@[simp] theorem ev_m1 (f : List D → Option (D × Nat)) (m n : M Op) (e : En) : mM1 f m n e = (M.bind m fun o e => match pk e (frz o) with
  | some (.str s, _) => (M.bind n fun o2 e => oK (((pkL true e [frz o2]).bind fun ds => f (.str s :: ds)).map fun r => Op.val r.1 r.2) e) e
  | _ => none) e := rfl
@[simp] theorem tru_lst (ds : List D) : tru (.lst ds) = some (!ds.isEmpty) := by unfold tru; cases ds <;> rfl
@[simp] theorem tru_bl (b : Bool) : tru (.bl b) = some b := by cases b <;> rfl
@[simp] theorem isi_str (x : Str) (T : String) : dIsi T [.str x] = some (.bl (isaD "str" T), 0) := rfl
@[simp] theorem isi_int (x : Int) (T : String) : dIsi T [.int x] = some (.bl (isaD "int" T), 0) := rfl
@[simp] theorem isi_bl (x : Bool) (T : String) : dIsi T [.bl x] = some (.bl (isaD "bool" T), 0) := rfl
@[simp] theorem isi_non (T : String) : dIsi T [.non] = some (.bl (isaD "NoneType" T), 0) := rfl
@[simp] theorem isi_lst (x : List D) (T : String) : dIsi T [.lst x] = some (.bl (isaD "list" T), 0) := rfl
@[simp] theorem isi_tup (x : List D) (T : String) : dIsi T [.tup x] = some (.bl (isaD "tuple" T), 0) := rfl
@[simp] theorem isi2_str (x : Str) (T U : String) : dIsi2 T U [.str x] = some (.bl (isaD "str" T || isaD "str" U), 0) := rfl
@[simp] theorem isi2_int (x : Int) (T U : String) : dIsi2 T U [.int x] = some (.bl (isaD "int" T || isaD "int" U), 0) := rfl
@[simp] theorem isi2_bl (x : Bool) (T U : String) : dIsi2 T U [.bl x] = some (.bl (isaD "bool" T || isaD "bool" U), 0) := rfl
@[simp] theorem isi2_non (T U : String) : dIsi2 T U [.non] = some (.bl (isaD "NoneType" T || isaD "NoneType" U), 0) := rfl
@[simp] theorem isi2_lst (x : List D) (T U : String) : dIsi2 T U [.lst x] = some (.bl (isaD "list" T || isaD "list" U), 0) := rfl
@[simp] theorem isi2_tup (x : List D) (T U : String) : dIsi2 T U [.tup x] = some (.bl (isaD "tuple" T || isaD "tuple" U), 0) := rfl
@[simp] theorem isN_non : dIsN [.non, .non] = some (.bl true, 0) := rfl
@[simp] theorem isN_int (i : Int) : dIsN [.int i, .non] = some (.bl false, 0) := rfl
@[simp] theorem isN_str (i : Str) : dIsN [.str i, .non] = some (.bl false, 0) := rfl
@[simp] theorem isN_bl (i : Bool) : dIsN [.bl i, .non] = some (.bl false, 0) := rfl
@[simp] theorem isN_lst (i : List D) : dIsN [.lst i, .non] = some (.bl false, 0) := rfl
@[simp] theorem isN_tup (i : List D) : dIsN [.tup i, .non] = some (.bl false, 0) := rfl
@[simp] theorem ev_andV (a b : M Op) (e : En) : mAndV a b e = match a e with | some (.ok (.val (.bl c) _) e') => if c = true then b e' else some (.ok (.val (.bl false) 0) e') | some (.exc C x e') => some (.exc C x e') | _ => none := by
  unfold mAndV mBl M.bind
  cases a e with
  | none => rfl
  | some r => cases r with
    | exc _ _ _ => rfl
    | ok o e' => cases o with
      | sl _ => rfl
      | val d k => cases d with
        | bl b => cases b <;> rfl
        | _ => rfl
@[simp] theorem outs_nil (ds : List D) (e : En) : outs [] ds e = some [] := rfl
@[simp] theorem outs_zero (ks : List Nat) (d : D) (ds : List D) (x : Option (D × Nat)) (e : En) : outs (0 :: ks) (d :: ds) (x :: e) = (outs ks ds e).map (d :: ·) := rfl
@[simp] theorem outs_one (ks : List Nat) (d d' : D) (ds : List D) (j : Nat) (e : En) : outs (1 :: ks) (d :: ds) (some (d', j) :: e) = if j = 1 then (outs ks ds e).map (d' :: ·) else none := rfl
@[simp] theorem outs_two (ks : List Nat) (d d' : D) (ds : List D) (j : Nat) (e : En) : outs (2 :: ks) (d :: ds) (some (d', j) :: e) = if j = 2 then (outs ks ds e).map (d' :: ·) else none := rfl
theorem run_ret {m : M Fl} {n : Nat} {ks : List Nat} {ds io : List D} {d : D} {k : Nat} {e : En} (h : m (en0 n ks ds) = some (.ok (.ret d k) e)) (ho : outs ks ds e = some io) (hl : ds.length = ks.length := by rfl) : runFn0 m n ks ds = some (.ret d k io) := by
  unfold runFn0 runFn
  rw [if_pos hl, h]
  simp [ho]
/-! ### layers -/
@[simp] theorem lay_int (n : Nat) (i : Int) : lay n (.int i) = true := by unfold lay; rfl
@[simp] theorem lay_non (n : Nat) : lay n .non = true := by unfold lay; rfl
@[simp] theorem lay_lst (n : Nat) (xs : List D) : lay (n + 1) (.lst xs) = layL n xs := by conv => lhs; unfold lay
@[simp] theorem lay_tup (n : Nat) (xs : List D) : lay (n + 1) (.tup xs) = layL n xs := by conv => lhs; unfold lay
@[simp] theorem layL_nil (n : Nat) : layL n [] = true := by unfold layL; rfl
@[simp] theorem layL_cons (n : Nat) (d : D) (ds : List D) : layL n (d :: ds) = (lay n d && layL n ds) := by conv => lhs; unfold layL
theorem layL_map {α : Type} (g : α → D) (xs : List α) (k : Nat) (h : ∀ x ∈ xs, lay k (g x) = true) : layL k (xs.map g) = true := by
  induction xs with
  | nil => simp
  | cons x xs ih => simp [h x (by simp), ih fun y hy => h y (List.mem_cons_of_mem _ hy)]
@[simp] theorem layL_ints (xs : List Int) (k : Nat) : layL k (xs.map D.int) = true := layL_map _ _ _ fun x _ => by simp
theorem eqD_lst {xs ys : List D} (h1 : layL 5 xs = true) (h2 : layL 5 ys = true) : eqD (.lst xs) (.lst ys) = some (decide (xs = ys)) := by
  rw [eqD_lay (by rfl) (by rw [lay_lst]; exact h1) (by rw [lay_lst]; exact h2)]
  simp
/-! ### joined texts -/
theorem str_ext {a b : Str} (h : a.cps.toList = b.cps.toList) : a = b := by
  cases a; cases b
  simp at h
  subst h
  rfl
theorem app_cps (a b : Str) : (a ++ b).cps = a.cps ++ b.cps := rfl
@[simp] theorem app_assoc (a b c : Str) : a ++ b ++ c = a ++ (b ++ c) := str_ext (by simp [app_cps])
@[simp] theorem emp_app (a : Str) : Str.empty ++ a = a := str_ext (by simp [app_cps, Str.empty])
@[simp] theorem app_emp (a : Str) : a ++ Str.empty = a := str_ext (by simp [app_cps, Str.empty])
@[simp] theorem app_len (a b : Str) : (a ++ b).length = a.length + b.length := by simp [Str.length, app_cps]
theorem join_cons {a x : Str} {ys : List Str} (h : ys ≠ []) : Str.join a (x :: ys) = x ++ a ++ Str.join a ys := by
  cases ys with
  | nil => exact absurd rfl h
  | cons y ys => rfl
theorem join_snoc {a y : Str} : ∀ {ys : List Str}, ys ≠ [] → Str.join a (ys ++ [y]) = Str.join a ys ++ (a ++ y)
  | [], h => absurd rfl h
  | [x], _ => by show x ++ a ++ y = x ++ (a ++ y); simp
  | x :: z :: ys, _ => by
    have := join_snoc (a := a) (y := y) (ys := z :: ys) (by simp)
    rw [List.cons_append, join_cons (x := x) (ys := z :: ys ++ [y]) (by simp), this, join_cons (x := x) (ys := z :: ys) (by simp)]
    simp only [app_assoc]
theorem join_last {a y z : Str} : ∀ {ys : List Str}, Str.join a (ys ++ [y ++ z]) = Str.join a (ys ++ [y]) ++ z
  | [] => rfl
  | x :: ys => by
    rw [List.cons_append, join_cons (by simp), join_last, List.cons_append, join_cons (by simp)]
    simp
@[simp] theorem ev_iR (ms : M (List Op)) (e : En) : iR ms e = (M.bind ms fun os e => oK ((pkL false e os).bind fun ds => match ds with
  | [.int n] => if n < 2 ^ 62 ∧ -(2 ^ 62) ≤ n then some (rngD 0 n.toNat) else none
  | [.int a, .int b] => if (-(2 ^ 62) ≤ a ∧ a < 2 ^ 62) ∧ (-(2 ^ 62) ≤ b ∧ b < 2 ^ 62) then some (rngD a (b - a).toNat) else none
  | _ => none) e) e := rfl
@[simp] theorem rngD_len (a : Int) (n : Nat) : (rngD a n).length = n := by simp [rngD]
theorem rngD_get {a : Int} {n i : Nat} {d : D} (h : (rngD a n)[i]? = some d) : i < n ∧ d = .int (a + i) := by
  unfold rngD at h
  rw [List.getElem?_map] at h
  obtain ⟨x, hx, rfl⟩ := Option.map_eq_some_iff.mp h
  have := List.getElem?_eq_some_iff.mp hx
  obtain ⟨h1, h2⟩ := this
  simp at h1 h2
  exact ⟨h1, by rw [h2]⟩
@[simp] theorem ev_sl (m : M Op) (l h : M (Option Int)) (e : En) : mSl m l h e = (M.bind m fun o => M.bind l fun i => M.bind h fun j e => oK (((pkL true e [frz o]).bind (dCut i j)).map fun r => Op.val r.1 r.2) e) e := rfl
@[simp] theorem ev_pt (m : M Op) (e : En) : mPt m e = (M.bind m fun o e => oK ((pk e (frz o)).bind fun x => match x.1 with | .int i => some (some i) | _ => none) e) e := by
  unfold mPt M.bind
  cases m e with
  | none => rfl
  | some r => cases r with
    | exc _ _ _ => rfl
    | ok o e' => first | rfl | (dsimp only; done) | (dsimp only; congr 1)
@[simp] theorem ev_pn (e : En) : mPn e = some (.ok none e) := rfl
@[simp] theorem dCut_lst (l h : Option Int) (ds : List D) : dCut l h [.lst ds] = some (.lst (cutD ds l h), 1) := rfl
@[simp] theorem dCut_kls (l h : Option Int) (ds : List D) : dCut l h [.kls ds] = some (.lst (cutD ds l h), 1) := rfl
theorem cut_map {α : Type} (g : α → D) (xs : List α) (l h : Option Int) : cutD (xs.map g) l h = ((xs.drop (HT.sIx xs.length 0 l)).take (HT.sIx xs.length xs.length h - HT.sIx xs.length 0 l)).map g := by
  unfold cutD
  simp [List.map_take, List.map_drop]
theorem ev_app (j ck : Nat) (m : M Op) (e0 : En) : mApp j ck m e0 = match e0[j]? with
  | some (some (.lst _, _)) => (M.bind m fun o e => match o with
    | .val d k => match e[j]? with
      | some (some (.lst ds, k')) => if k' = ck + 1 ∧ k = ck ∧ ds.length < sizeLine then some (.ok (.val .non 0) (e.set j (some (.lst (ds ++ [d]), ck + 1)))) else none
      | _ => none
    | _ => none) e0
  | _ => none := rfl
@[simp] theorem ev_new (k : Nat) (e : En) : mNew k e = some (.ok (.val (.lst []) (k + 1)) e) := rfl
@[simp] theorem tk_slot (i : Nat) (e : En) : tk (.sl i) e = match e[i]? with | some (some (d, _)) => some (.ok (d, 0) (e.set i (some (d, 0)))) | _ => none := by
  unfold tk
  rfl
end Rf
/-! Rf, part N: what is never reached; lists lowered; strings walked and sought in; calls that hand a new thing over. -/
namespace Rf
open PySem PySem.Spec PyProof.Rows L2
open Evl (Ex)
section
variable {X : Cx} {p : Pins} {W : WX}
/-- never reached -/
def mDead {α : Type} : M α := fun _ => none
theorem rs_dead {s : Stmt} : RS X p W s mDead := ⟨⟨fun pins s σ H D I q => by
  obtain ⟨e, Hs, fp, r, q⟩ := q
  exact q.elim⟩⟩
theorem re_dead {s : Expr} : RE X p W s mDead := ⟨⟨fun pins s σ H D I q => by
  obtain ⟨e, Hs, fp, r, q⟩ := q
  exact q.elim⟩⟩
/-- the module's own constants -/
theorem re_gint {x : Str} {i : Int} {t : Tok} {pos : Pos} (hg : Gl X x) (hm : X.mg x = some (.int i t)) (hd : (x == ("__debug__" : Str)) = false := by decide) : RE X p W (.Name x pos) (mC (.int i)) := re_c (pe_glob (v := .int i) hg hm ⟨t, rfl⟩ hd) fun _ _ _ => ⟨rfl, rfl⟩
theorem re_gstr {x : Str} {i : Str} {t : Tok} {pos : Pos} (hg : Gl X x) (hm : X.mg x = some (.str i t)) (hd : (x == ("__debug__" : Str)) = false := by decide) : RE X p W (.Name x pos) (mC (.str i)) := re_c (pe_glob (v := .str i) hg hm ⟨t, rfl⟩ hd) fun _ _ _ => ⟨rfl, rfl⟩
/-! a list whose items are owned, too, lowered: its items stand still from here on -/
section
variable {K : PySem.W.Frag} {e : En} {σ : L2.St} {H Hs : Hp} {fp : List Addr}
theorem Rel.lower {j : Nat} {ds : List D} {k : Nat} (r : Rel K p e σ H Hs fp) (h : e[j]? = some (some (.lst ds, k + 2))) : ∃ Hs' fp', Rel K p (e.set j (some (.lst ds, 1))) σ H Hs' fp' ∧ Stp H Hs fp H Hs' fp' := by
  obtain ⟨v, fR, f, hσ, rR, hI, hfp, hdis, nd⟩ := r.out h
  have hj : j < (e.set j none).length := by simpa using (List.getElem?_eq_some_iff.mp h).1
  obtain ⟨a, vs, f2, rfl, hl, hk⟩ := hI
  rcases hk with ⟨z, _⟩ | ⟨_, ha, hs, rfl⟩
  · cases z
  have hg : ∀ b ∈ f2, Hs b = none := fun b hb => (hl.own b hb).1
  have na : a ∉ f2 := (List.nodup_cons.mp nd).1
  have dis2 : ∀ b ∈ fR, b ∉ f2 := fun b hb z => hdis b hb (List.mem_cons_of_mem _ z)
  have rR2 : Rel K p (e.set j none) σ H (Rf.put H Hs f2) fR := rR.frame (ex_put hg) (put_ex r.ex) fun b hb => ⟨rfl, by rw [put_out (dis2 b hb)]; exact (rR.disj b hb).1⟩
  have hnew : Rp K H (Rf.put H Hs f2) (.lst ds) 1 (.ref a) [a] := ⟨a, vs, [], rfl, hl.freeze (ex_put hg) fun b hb => put_in hb, .inr ⟨Nat.one_pos, ha, by rw [put_out na]; exact hs, rfl⟩⟩
  obtain ⟨fp', r3, h3⟩ := rR2.into hj hσ hnew (by simp) fun b hb => by simp at hb; subst hb; exact fun z => hdis b z (by simp)
  refine ⟨Rf.put H Hs f2, fp', by simpa using r3, ?_⟩
  exact (Stp.put (fp := fp) hg fun b hb => (hfp b).mpr (.inr (List.mem_cons_of_mem _ hb))).weak (fun _ z => z) fun b hb => .inr ((hfp b).mpr (by rcases h3 b hb with z | z <;> simp at z ⊢ <;> simp [z]))
end
def lowE (e : En) (j : Nat) : En := match e[j]? with
  | some (some (.lst ds, k + 2)) => e.set j (some (.lst ds, 1))
  | _ => e
def mLw {α : Type} (j : Nat) (m : M α) : M α := fun e => m (lowE e j)
theorem rss_low {j : Nat} {ss : List Stmt} {m : M Fl} (h : RSs X p W ss m) : RSs X p W ss (mLw j m) := ⟨PSs_imp h.ps fun σ H D q => by
  obtain ⟨e, Hs, fp, r, q⟩ := q
  unfold mLw lowE at q
  split at q
  · rename_i ds k hd
    obtain ⟨Hs', fp', r', s⟩ := r.lower hd
    exact ⟨_, Hs', fp', r', kM.imp q s fun f e h => h.after s⟩
  · exact ⟨_, Hs, fp, r, q⟩⟩
/-! strings -/
def dInS : List D → Option (D × Nat)
  | [.str i, .str j] => some (.bl (!(Builtin.Str.occurrences j i 0 j.length 1).isEmpty), 0)
  | _ => none
def dNotInS : List D → Option (D × Nat)
  | [.str i, .str j] => some (.bl (!(!(Builtin.Str.occurrences j i 0 j.length 1).isEmpty)), 0)
  | _ => none
theorem s_inS {K : PySem.W.Frag} : Op2S K (fun x y H Q => ∃ i j, x = .str i ∧ y = .str j ∧ Q (.bl (!(Builtin.Str.occurrences j i 0 j.length 1).isEmpty)) H) false dInS := fun x y H Hs a b z Q ex hx hy hf o => by
  unfold dInS at hf
  split at hf
  · rename_i i j heq; cases heq; cases hf
    exact ⟨i, j, v1_str hx, v1_str hy, out_bl ex o⟩
  · cases hf
theorem s_notInS {K : PySem.W.Frag} : Op2S K (fun x y H Q => ∃ i j, x = .str i ∧ y = .str j ∧ Q (.bl (!(!(Builtin.Str.occurrences j i 0 j.length 1).isEmpty))) H) false dNotInS := fun x y H Hs a b z Q ex hx hy hf o => by
  unfold dNotInS at hf
  split at hf
  · rename_i i j heq; cases heq; cases hf
    exact ⟨i, j, v1_str hx, v1_str hy, out_bl ex o⟩
  · cases hf
def chD (x : Str) : List D := x.cps.toList.map fun c => D.str ⟨#[c]⟩
def itS (o : Op) : M (List D) := fun e => match pk e (frz o) with
  | some (.str x, _) => some (.ok (chD x) e)
  | _ => none
def iS (m : M Op) : M (List D) := m.bind itS
theorem wk_str {K : PySem.W.Frag} {x : Str} {Hs : Hp} : Wk K (Its x) (chD x) Hs where
  go := fun i d H2 Hs2 hd ex1 ex2 => by
    have := (List.getElem?_eq_some_iff.mp hd).1
    unfold chD at this
    show i < x.cps.size
    simpa using this
  yld := fun i d H2 Hs2 y H3 hd ex1 ex2 hy => by
    obtain ⟨rfl, c, hc, rfl⟩ := hy
    unfold chD at hd
    rw [List.getElem?_map] at hd
    obtain ⟨c', hc', rfl⟩ := Option.map_eq_some_iff.mp hd
    rw [Array.getElem?_toList, hc] at hc'
    cases hc'
    exact ⟨Hs2, ex2, ⟨rfl, rfl⟩, Stp.refl _ _ _⟩
  stop := fun H2 Hs2 ex1 ex2 => by
    show x.cps.size ≤ _
    unfold chD
    simp
theorem ri_str {tg l : Expr} {m : M Op} (h : RE X p W l m) : RI X p W tg l (iS m) := ⟨⟨fun pins s σ H R I q => (pi_str (tg := tg) h.pe).run pins s σ H R I (by
  obtain ⟨e, Hs, fp, r, q⟩ := q
  refine ⟨e, Hs, fp, r, q.bind.imp (Stp.refl _ _ _) fun o e1 k v H' Hs' fp' ro s1 => ?_⟩
  obtain ⟨Hs2, fp2, r2, h1, s2⟩ := frzRO ro
  unfold itS at k
  split at k
  · rename_i x kk hp
    obtain ⟨f, hr, _⟩ := pk_rp r2 h1 hp
    exact ⟨x, hr.1, k _ H' Hs2 fp2 r2 (s1.trans s2) wk_str⟩
  · exact k.elim)⟩⟩
/-! ### a call that hands a new thing over; its other arguments are names and constants -/
def SV (σ : L2.St) : Op → V → Prop
  | .sl i, v => σ[i]? = some (some v)
  | .val (.int n) k, v => k = 0 ∧ v = .int n
  | .val (.str n) k, v => k = 0 ∧ v = .str n
  | .val (.bl n) k, v => k = 0 ∧ v = .bl n
  | .val .non k, v => k = 0 ∧ v = .non
  | _, _ => False
def okS (e : En) : Op → Bool
  | .sl i => match e[i]? with
    | some (some _) => true
    | _ => false
  | .val (.int _) 0 => true
  | .val (.str _) 0 => true
  | .val (.bl _) 0 => true
  | .val .non 0 => true
  | _ => false
theorem sv_ex {K : PySem.W.Frag} {e : En} {σ : L2.St} {H Hs : Hp} {fp : List Addr} (r : Rel K p e σ H Hs fp) : ∀ {l : List Op}, l.all (okS e) = true → ∃ vs, Paired (SV σ) l vs
  | [], _ => ⟨[], .nil⟩
  | o :: l, h => by
    rw [List.all_cons, Bool.and_eq_true] at h
    obtain ⟨vs, hvs⟩ := sv_ex r h.2
    have h1 := h.1
    have : ∃ v, SV σ o v := by
      match o, h1 with
      | .sl i, h1 =>
        unfold okS at h1
        dsimp only at h1
        split at h1
        · rename_i x hx
          have hi : i < e.length := (List.getElem?_eq_some_iff.mp hx).1
          obtain ⟨y, s, f1, f2, f3, e1, e2, e3, e4, _⟩ := r.sl.lens i hi
          rw [hx] at e1
          cases e1
          obtain ⟨d, k⟩ := x
          obtain ⟨v, rfl, _⟩ := e4
          exact ⟨v, e2⟩
        · cases h1
      | .val (.int n) 0, _ => exact ⟨.int n, rfl, rfl⟩
      | .val (.str n) 0, _ => exact ⟨.str n, rfl, rfl⟩
      | .val (.bl n) 0, _ => exact ⟨.bl n, rfl, rfl⟩
      | .val .non 0, _ => exact ⟨.non, rfl, rfl⟩
    obtain ⟨v, hv⟩ := this
    exact ⟨v :: vs, .cons hv hvs⟩
theorem sv_ro {K : PySem.W.Frag} {σ : L2.St} {H Hs : Hp} {s : Option V} : ∀ {l : List Op} {vs : List V}, Paired (SV σ) l vs → Paired (RO1 K (σ ++ [s]) H Hs) l vs
  | [], _, h => by cases h; exact .nil
  | o :: l, _, h => by
    cases h with
    | cons h1 h2 =>
      refine .cons ?_ (sv_ro h2)
      match o, h1 with
      | .sl i, h1 =>
        have : i < σ.length := (List.getElem?_eq_some_iff.mp h1).1
        show (σ ++ [s])[i]? = _
        rw [List.getElem?_append_left this]
        exact h1
      | .val (.int n) k, h1 => exact ⟨h1.1, h1.2, rfl⟩
      | .val (.str n) k, h1 => exact ⟨h1.1, h1.2, rfl⟩
      | .val (.bl n) k, h1 => exact ⟨h1.1, h1.2, rfl⟩
      | .val .non k, h1 => exact ⟨h1.1, h1.2, rfl⟩
structure SE (X : Cx) (x : Expr) (o : Op) : Prop where
  pe : PE X x (fun σ H Q => ∃ v, SV σ o v ∧ Q v H)
structure SA (X : Cx) (xs : List Expr) (os : List Op) : Prop where
  pa : PA X xs (fun σ H R => ∃ vs, Paired (SV σ) os vs ∧ R vs H)
theorem se_v (i : Nat) {x : Str} {pos : Pos} (h : PE X (.Name x pos) (tVar i) := by exact pv _) : SE X (.Name x pos) (.sl i) := ⟨h⟩
theorem se_int {i : Int} {j : Nat} {pos : Pos} : SE X (.Constant (.int i) j pos) (.val (.int i) 0) := ⟨PE_imp pe_int fun σ H Q q => by
  obtain ⟨v, ⟨_, rfl⟩, q⟩ := q
  exact q⟩
theorem sa_nil : SA X [] [] := ⟨PA_imp pa_nil fun σ H R q => by
  obtain ⟨vs, h, q⟩ := q
  cases h
  exact q⟩
theorem sa_cons {x : Expr} {xs : List Expr} {o : Op} {os : List Op} (h : SE X x o) (hr : SA X xs os) (hs : starEach (x :: xs) X.env = (false, eval x X.env) :: starEach xs X.env := by rfl) : SA X (x :: xs) (o :: os) := ⟨PA_imp (pa_cons h.pe hr.pa hs) fun σ H R q => by
  obtain ⟨vs, h, q⟩ := q
  cases h with
  | cons h1 h2 => exact ⟨_, h1, _, h2, q⟩⟩
/-- the arguments, the one between l and r being new -/
structure RTm (X : Cx) (p : Pins) (W : WX) (xs : List Expr) (l r : List Op) (m : M Op) : Prop where
  pa : PA X xs (fun σ H R => ∃ ls rs, Paired (SV σ) l ls ∧ Paired (SV σ) r rs ∧ tM X.K p W m σ H fun v H' => R (ls ++ v :: rs) H')
theorem tm_here {x : Expr} {xs : List Expr} {r : List Op} {m : M Op} (h : RE X p W x m) (hr : SA X xs r) (hs : starEach (x :: xs) X.env = (false, eval x X.env) :: starEach xs X.env := by rfl) : RTm X p W (x :: xs) [] r m := ⟨PA_imp (pa_cons h.pe hr.pa hs) fun σ H R q => by
  obtain ⟨ls, rs, h1, h2, q⟩ := q
  cases h1
  exact q.mono fun v H' q => ⟨rs, h2, q⟩⟩
theorem tm_cons {x : Expr} {xs : List Expr} {o : Op} {l r : List Op} {m : M Op} (h : SE X x o) (hr : RTm X p W xs l r m) (hs : starEach (x :: xs) X.env = (false, eval x X.env) :: starEach xs X.env := by rfl) : RTm X p W (x :: xs) (o :: l) r m := ⟨PA_imp (pa_cons h.pe hr.pa hs) fun σ H R q => by
  obtain ⟨ls, rs, h1, h2, q⟩ := q
  cases h1 with
  | cons h1 h3 => exact ⟨_, h1, _, rs, h3, h2, q⟩⟩
def mCallT (i k : Nat) (G : List D → Option Ro) (l r : List Op) (m : M Op) : M Op := fun e => if (l.all (okS e) && r.all (okS e)) = true then
    match m e with
    | some (.ok (.val dI k') e1) => if k' = k then
        match mCall1 i k G (fun e => some (.ok (l ++ .sl e1.length :: r) e)) (e1 ++ [some (dI, k)]) with
        | some (.ok (.val d kd) e2) => some (.ok (.val d kd) e2.dropLast)
        | _ => none
      else none
    | _ => none
  else none
theorem sl_snoc {K : PySem.W.Frag} {H Hs : Hp} {x : Option (D × Nat)} {s : Option V} {g : List Addr} (hx : SlR K H Hs x s g) : ∀ {e : En} {σ : L2.St} {f : List Addr}, Sl K H Hs e σ f → Sl K H Hs (e ++ [x]) (σ ++ [s]) (f ++ g)
  | [], _, _, h => by
    obtain ⟨rfl, rfl⟩ := h
    exact ⟨s, [], g, [], rfl, by simp, hx, rfl, rfl⟩
  | y :: e, _, _, h => by
    obtain ⟨s', r, f1, f2, rfl, rfl, h1, h2⟩ := h
    exact ⟨s', r ++ [s], f1, f2 ++ g, rfl, by simp, h1, sl_snoc hx h2⟩
theorem sl_drop {K : PySem.W.Frag} {H Hs : Hp} {s : Option V} : ∀ {e : En} {σ : L2.St} {f : List Addr}, Sl K H Hs e (σ ++ [s]) f → ∃ f1 f2, f = f1 ++ f2 ∧ Sl K H Hs e.dropLast σ f1
  | [], σ, _, h => by
    obtain ⟨h1, _⟩ := h
    cases σ <;> cases h1
  | [y], [], f, h => ⟨[], f, rfl, rfl, rfl⟩
  | [y], s0 :: σ, _, h => by
    obtain ⟨s', r, f1, f2, h0, rfl, h1, h2⟩ := h
    obtain ⟨rfl, rfl⟩ := h2
    simp at h0
  | y :: z :: e, [], _, h => by
    obtain ⟨s', r, f1, f2, h0, rfl, h1, h2⟩ := h
    obtain ⟨s'', r', f3, f4, h5, _⟩ := h2
    subst h5
    simp at h0
  | y :: z :: e, s0 :: σ, _, h => by
    obtain ⟨s', r, f1, f2, h0, rfl, h1, h2⟩ := h
    simp only [List.cons_append, List.cons.injEq] at h0
    obtain ⟨rfl, rfl⟩ := h0
    obtain ⟨g1, g2, rfl, h3⟩ := sl_drop h2
    exact ⟨f1 ++ g1, g2, by simp, s0, σ, f1, g1, rfl, rfl, h1, h3⟩
theorem spOf_mono {K : PySem.W.Frag} {ks : List Nat} {G : List D → Option Ro} {vs : List V} {H : Hp} {Q : VK} {E E' : XK} (he : ∀ c d H, E c d H → E' c d H) (h : spOf K ks G vs H Q E) : spOf K ks G vs H Q E' := by
  obtain ⟨ds, Hs, fp, ex, nd, hr, hm⟩ := h
  refine ⟨ds, Hs, fp, ex, nd, hr, ?_⟩
  cases hG : G ds with
  | none => rw [hG] at hm; exact hm
  | some r =>
    rw [hG] at hm
    cases r with
    | ret d k io => exact hm
    | exc C x io => exact fun dx v H' Hs' f a1 a2 a3 a4 a5 a6 a7 a8 a9 => he _ _ _ (hm dx v H' Hs' f a1 a2 a3 a4 a5 a6 a7 a8 a9)
theorem pd_app {α β : Type} {R : α → β → Prop} {c : List α} {d : List β} (h2 : Paired R c d) : ∀ {a : List α} {b : List β}, Paired R a b → Paired R (a ++ c) (b ++ d)
  | [], _, h => by cases h; exact h2
  | x :: a, _, h => by cases h with | cons h1 h3 => exact .cons h1 (pd_app h2 h3)
theorem t_callT {K : PySem.W.Frag} {i k : Nat} {G : List D → Option Ro} {l r : List Op} {m : M Op} {σ : L2.St} {H : Hp} {Q : VK} {E : XK} (q : tM K p W (mCallT i k G l r m) σ H Q) :
    ∃ ls rs, Paired (SV σ) l ls ∧ Paired (SV σ) r rs ∧ tM K p W m σ H fun v H' => spOf K (ksI k i (l ++ Op.sl 0 :: r).length) G (ls ++ v :: rs) H' Q E := by
  obtain ⟨e, Hs, fp, rl, q⟩ := q
  unfold mCallT at q
  split at q
  rotate_left
  · exact q.elim
  rename_i hok
  rw [Bool.and_eq_true] at hok
  obtain ⟨ls, hls⟩ := sv_ex rl hok.1
  obtain ⟨rs, hrs⟩ := sv_ex rl hok.2
  refine ⟨ls, rs, hls, hrs, e, Hs, fp, rl, ?_⟩
  split at q
  rotate_left
  · exact q.elim
  rename_i dI k' e1 hm
  rw [hm]
  split at q
  rotate_left
  · exact q.elim
  rename_i hk
  subst hk
  split at q
  rotate_left
  · exact q.elim
  rename_i d kd e2 hc
  intro v H1 Hs1 fp1 ro s1
  obtain ⟨f, g, rfl, r1, hI, nd⟩ := ro
  have rext : Rel K p (e1 ++ [some (dI, k')]) (σ ++ [some v]) H1 Hs1 (f ++ g) := ⟨r1.ex, sl_snoc (x := some (dI, k')) ⟨v, rfl, hI⟩ r1.sl, nd, fun q hq => by
    have h := r1.pn q hq
    rw [List.getElem?_append_left (List.getElem?_eq_some_iff.mp h).1]
    exact h⟩
  have core := call1_core (K := K) (p := p) (W := W0) (σ := σ ++ [some v]) (H := H1) (Hs := Hs1) (fp := f ++ g) (e := e1 ++ [some (dI, k')]) (i := i) (k := k') (G := G) (ms := fun e => some (.ok (l ++ .sl e1.length :: r) e)) (n := (l ++ Op.sl 0 :: r).length) (Q := Q)
    (fun _ _ _ h => by cases h; simp) (by
      rw [hc]
      intro v' H' Hs' fp' ro' s'
      obtain ⟨f', g', rfl, r', h', nd'⟩ := ro'
      obtain ⟨f1, f2, rfl, sl'⟩ := sl_drop r'.sl
      have nda := List.nodup_append.mp nd'
      have ndb := List.nodup_append.mp nda.1
      refine q v' H' Hs' (f1 ++ g') ⟨f1, g', rfl, ⟨r'.ex, sl', ndb.1, r1.pn⟩, h', List.nodup_append.mpr ⟨ndb.1, nda.2.1, fun a ha b hb => nda.2.2 a (List.mem_append_left _ ha) b hb⟩⟩ ((s1.trans s').less fun a ha => ?_)
      simp at ha ⊢
      rcases ha with ha | ha <;> simp [ha])
  refine spOf_mono (fun _ _ _ z => z.elim) (core (ls ++ v :: rs) H1 Hs1 (f ++ g) ⟨rext, ?_⟩ (Stp.refl _ _ _))
  have hmid : Paired (RO1 K (σ ++ [some v]) H1 Hs1) (.sl e1.length :: r) (v :: rs) := .cons (by
    show (σ ++ [some v])[e1.length]? = _
    rw [← r1.sl.len]
    simp) (sv_ro hrs)
  exact pd_app hmid (sv_ro hls)
theorem re_callT {CX : CXT} (i kI : Nat) {k : Nat} {f : Addr} {fd : FuncData} {ps : List Str} {x : Str} {y : Expr} {ys : List Expr} {pp pos : Pos} {G : List D → Option Ro} {ks : List Nat} {l r : List Op} {m : M Op} (F : FnOk X.prog X.w X.K X.mg X.base CX k f fd ps (spOf X.K ks G)) (hr : Room k X.A) (hg : Gl X x) (hm : X.mg x = some (.ref f)) (hk : PySem.W.keepIn X.K (.ref f) = true) (hb : Binds X.K fd ps [])
    (hx : ∀ σ, PassesAt CX X σ (WE W σ)) (ha : RTm X p W (y :: ys) l r m) (hks : ks = ksI kI i (l ++ Op.sl 0 :: r).length := by rfl) (hdb : (x == ("__debug__" : Str)) = false := by decide) (he : starEach (y :: ys) X.env = (false, eval y X.env) :: starEach ys X.env := by rfl) (hpl : (backTo pos (starEach ys X.env)).any (·.1) = false := by rfl) :
    RE X p W (.Call (.Name x pp) (y :: ys) [] pos) (mCallT i kI G l r m) := ⟨PE_imp (pe_callSD (E := WE W) F hr hg hm hk hb .nil hx ha.pa hdb he hpl) fun σ H Q q => by
  subst hks
  obtain ⟨ls, rs, h1, h2, q⟩ := t_callT (E := WE W σ) q
  exact ⟨ls, rs, h1, h2, q.mono fun v H' q => by show spOf _ _ _ (_ ++ []) _ _ _; rw [List.append_nil]; exact q⟩⟩
end
end Rf
/-! Rf, part T: texts of whole numbers, split and read. -/
namespace Rf
open PySem L2 TL
def sIL (x : Int) : List Nat := if x < 0 then 45 :: numL x.natAbs else numL x.natAbs
theorem tl_neg {n : Nat} (h : 0 < n) : tl (Str.ofString (toString (-(n : Int)))) = 45 :: numL n := by
  obtain ⟨m, rfl⟩ : ∃ m, n = m + 1 := ⟨n - 1, by omega⟩
  have e : toString (-((m + 1 : Nat) : Int)) = "-" ++ Nat.repr (m + 1) := rfl
  rw [e]
  show (Str.ofString _).cps.toList = _
  rw [Str.ofString_eq_toList]
  show (("-" ++ Nat.repr (m + 1)).toList.map Char.toNat) = _
  rw [String.toList_append, List.map_append]
  unfold numL Nat.repr
  simp
theorem tl_sI (x : Int) : tl (sI x) = sIL x := by
  unfold sIL sI
  split
  · have : x = -((x.natAbs : Nat) : Int) := by omega
    conv => lhs; rw [this]
    exact tl_neg (by omega)
  · have : x = ((x.natAbs : Nat) : Int) := by omega
    conv => lhs; rw [this]
    exact tl_num _
def digs (cs : List Nat) : Bool := cs.all fun c => decide (48 ≤ c ∧ c ≤ 57)
def numOk (cs : List Nat) : Bool := !cs.isEmpty && decide (cs.length ≤ 60) && !(cs.head? == some 48 && decide (1 < cs.length)) && digs cs
def cardOk (cs : List Nat) : Bool := if cs.head? = some 45 then numOk cs.tail && !(cs == [45, 48]) else numOk cs
theorem digs_num (n : Nat) : digs (numL n) = true := by
  unfold digs
  rw [List.all_eq_true]
  intro c hc
  have := numL_digits n c hc
  exact decide_eq_true this
theorem num_head (n : Nat) (h : 0 < n) : (numL n).head? ≠ some 48 := by
  induction n using Nat.strongRecOn with
  | _ n ih =>
    by_cases h10 : n < 10
    · rw [numL_lt h10]
      simp
      omega
    · rw [numL_step (by omega)]
      have := ih (n / 10) (by omega) (by omega)
      cases hq : numL (n / 10) with
      | nil => exact absurd hq (numL_ne _)
      | cons c r =>
        rw [hq] at this
        simpa using this
theorem numOk_num {n : Nat} (h : n < 10 ^ 60) : numOk (numL n) = true := by
  unfold numOk
  have h1 : (numL n).isEmpty = false := by
    cases hq : numL n with
    | nil => exact absurd hq (numL_ne _)
    | cons _ _ => rfl
  have h2 := numL_len (k := 60) (by decide) h
  rw [h1, digs_num, decide_eq_true h2]
  by_cases h0 : n = 0
  · subst h0
    rfl
  · have := num_head n (by omega)
    have : ((numL n).head? == some 48) = false := by simpa using this
    rw [this]
    rfl
theorem num_head45 (n : Nat) : (numL n).head? ≠ some 45 := by
  cases hq : numL n with
  | nil => simp
  | cons c r =>
    have := numL_digits n c (by rw [hq]; simp)
    simp
    omega
theorem cardOk_sI {x : Int} (h : x.natAbs < 10 ^ 60) : cardOk (sIL x) = true := by
  unfold cardOk sIL
  by_cases hx : x < 0
  · rw [if_pos hx]
    have h1 := numOk_num h
    have h2 := num_head x.natAbs (by omega)
    have h3 : (45 :: numL x.natAbs == [45, 48]) = false := by
      cases hq : numL x.natAbs with
      | nil => rfl
      | cons c r =>
        rw [hq] at h2
        simp at h2 ⊢
        intro z
        exact absurd z h2
    simp [h1, h3]
  · rw [if_neg hx, if_neg (num_head45 _)]
    exact numOk_num h
theorem int_sI {x : Int} (h : x.natAbs < 10 ^ 60) : intText? (sI x) = some x := by
  have hl := numL_len (k := 60) (by decide) h
  have ht := tl_sI x
  unfold sIL at ht
  by_cases hx : x < 0
  · rw [if_pos hx] at ht
    have := PySem.intText_neg (x := sI x) ht (numL_digits _) (numL_ne _) (by rw [len_tl, ht, List.length_cons]; omega)
    rw [this, numL_val]
    congr 1
    omega
  · rw [if_neg hx] at ht
    have := PySem.intText_digits (x := sI x) (by rw [show (sI x).cps.toList = _ from ht]; exact numL_digits _) (by rw [show (sI x).cps.toList = _ from ht]; exact numL_ne _) (by rw [len_tl, ht]; omega)
    rw [this, show (sI x).cps.toList = _ from ht, numL_val]
    congr 1
    omega
theorem sI_inj {x y : Int} (h : sI x = sI y) : x = y := by
  have h1 := tl_sI x
  rw [h, tl_sI y] at h1
  unfold sIL at h1
  by_cases hx : x < 0 <;> by_cases hy : y < 0
  · rw [if_pos hx, if_pos hy] at h1
    have := numL_inj (List.cons.inj h1).2
    omega
  · rw [if_pos hx, if_neg hy] at h1
    have := num_head45 y.natAbs
    rw [h1] at this
    simp at this
  · rw [if_neg hx, if_pos hy] at h1
    have := num_head45 x.natAbs
    rw [← h1] at this
    simp at this
  · rw [if_neg hx, if_neg hy] at h1
    have := numL_inj h1
    omega
theorem sI_free {x : Int} {s : Nat} (h : s < 45 ∨ 57 < s) : s ∉ tl (sI x) := by
  rw [tl_sI]
  unfold sIL
  split
  · intro hm
    rcases List.mem_cons.mp hm with e | hm
    · omega
    · exact numL_free (by omega) hm
  · exact numL_free (by omega)
theorem sI_ne_dash (x : Int) : sI x ≠ "-" := by
  intro h
  have h1 := tl_sI x
  rw [h] at h1
  have h2 : tl (Str.ofString "-") = [45] := by decide
  rw [h2] at h1
  unfold sIL at h1
  split at h1
  · exact numL_ne _ (List.cons.inj h1).2.symm
  · have := num_head45 x.natAbs
    rw [← h1] at this
    simp at this
/-! splitting -/
theorem split_sp {ys : List Str} (hne : ys ≠ []) (h : ∀ y ∈ ys, 32 ∉ tl y) : Txt.split (Str.join " " ys) " " = ys := by
  rw [← join_eq]
  exact split_join (s := 32) (S := []) (by decide +kernel) (by decide +kernel) hne h
theorem split_colon {ys : List Str} (hne : ys ≠ []) (h : ∀ y ∈ ys, 58 ∉ tl y) : Txt.split (Str.join ":" ys) ":" = ys := by
  rw [← join_eq]
  exact split_join (s := 58) (S := []) (by decide +kernel) (by decide +kernel) hne h
theorem free3 {p q : List Nat} (h : 124 ∉ p) (hq : q.head? ≠ some 124) : ∀ i, i < p.length → pre [32, 124, 32] ((p ++ q).drop i) = false := fun i hi => by
  cases hc : pre [32, 124, 32] ((p ++ q).drop i) with
  | false => rfl
  | true =>
    exfalso
    unfold pre at hc
    have hc := eq_of_beq hc
    have h1 : ((p ++ q).drop i)[1]? = some 124 := by
      have : (((p ++ q).drop i).take 3)[1]? = some 124 := by
        rw [show ([32, 124, 32] : List Nat).length = 3 from rfl] at hc
        rw [hc]
        rfl
      rw [List.getElem?_take] at this
      simpa using this
    rw [List.getElem?_drop] at h1
    by_cases h2 : i + 1 < p.length
    · rw [List.getElem?_append_left h2] at h1
      exact h (List.mem_of_getElem? h1)
    · rw [List.getElem?_append_right (by omega), show i + 1 - p.length = 0 from by omega] at h1
      rw [List.head?_eq_getElem?] at hq
      exact hq h1
theorem spl_join3 : ∀ {parts : List (List Nat)}, parts ≠ [] → (∀ p ∈ parts, 124 ∉ p) → spl [32, 124, 32] 0 [] (joinL [32, 124, 32] parts) = parts
  | [], h, _ => absurd rfl h
  | [p], _, hp => by
    show spl [32, 124, 32] 0 [] p = [p]
    rw [spl_last fun i hi => by
      have := free3 (q := []) (hp p (by simp)) (by simp) i hi
      rwa [List.append_nil] at this, List.nil_append]
  | p :: q :: r, _, hp => by
    show spl [32, 124, 32] 0 [] (p ++ ([32, 124, 32] ++ joinL [32, 124, 32] (q :: r))) = p :: q :: r
    rw [spl_part (by simp) (free3 (hp p (by simp)) (by simp)), List.nil_append, spl_join3 (by simp) fun z hz => hp z (List.mem_cons_of_mem _ hz)]
theorem split_bar {ys : List Str} (hne : ys ≠ []) (h : ∀ y ∈ ys, 124 ∉ tl y) : Txt.split (Str.join " | " ys) " | " = ys := by
  have ey : tl (Str.ofString " | ") = [32, 124, 32] := by decide +kernel
  refine map_tl_inj ?_
  rw [split_spl _ _ (by rw [ey]; simp) (kind_ok (by decide +kernel)), tl_join, ey]
  refine spl_join3 (fun e => hne (List.map_eq_nil_iff.mp e)) fun p hp => ?_
  obtain ⟨z, hz, rfl⟩ := List.mem_map.mp hp
  exact h z hz
theorem mem_join {a : Str} {c : Nat} : ∀ {ys : List Str}, c ∈ tl (Str.join a ys) → c ∈ tl a ∨ ∃ y ∈ ys, c ∈ tl y
  | [], h => by cases h
  | [x], h => .inr ⟨x, by simp, h⟩
  | x :: z :: r, h => by
    rw [join_cons (by simp), tl_append, tl_append] at h
    simp only [List.mem_append] at h
    rcases h with (h | h) | h
    · exact .inr ⟨x, by simp, h⟩
    · exact .inl h
    · rcases mem_join h with h | ⟨y, hy, h⟩
      · exact .inl h
      · exact .inr ⟨y, List.mem_cons_of_mem _ hy, h⟩
/-! loops, reckoned -/
@[simp] theorem ev_loopN (t : D → En → Option En) (mb : M Fl) (e : En) : mLoop t mb [] e = some (.ok .nx e) := rfl
@[simp] theorem ev_loopC (t : D → En → Option En) (mb : M Fl) (d : D) (r : List D) (e : En) : mLoop t mb (d :: r) e = (match t d e with | none => none | some e1 => (M.bind mb (endF (mLoop t mb r))) e1) := rfl
@[simp] theorem endF_nx (m : M Fl) : endF m .nx = m := rfl
@[simp] theorem endF_ct (m : M Fl) : endF m .ct = m := rfl
@[simp] theorem endF_brk (m : M Fl) : endF m .brk = mNx := rfl
@[simp] theorem endF_ret (m : M Fl) (d : D) (k : Nat) (e : En) : endF m (.ret d k) e = some (.ok (.ret d k) e) := rfl
@[simp] theorem ev_for (mi : M (List D)) (t : D → En → Option En) (mb : M Fl) (e : En) : mFor mi t mb e = (M.bind mi (mLoop t mb)) e := rfl
@[simp] theorem ev_iS (m : M Op) (e : En) : iS m e = (M.bind m itS) e := rfl
@[simp] theorem ev_itS (o : Op) (e : En) : itS o e = (match pk e (frz o) with | some (.str x, _) => some (.ok (chD x) e) | _ => none) := rfl
@[simp] theorem dItem_str (x : Str) (i : Int) : dItem [.str x, .int i] = if x.length ≤ sizeLine then (atI x.cps.toList i).map fun c => (.str ⟨#[c]⟩, 0) else none := rfl
@[simp] theorem dLen_str (x : Str) : dLen [.str x] = if x.length ≤ sizeLine then some (.int x.length, 0) else none := rfl
@[simp] theorem dCut_str (l h : Option Int) (x : Str) : dCut l h [.str x] = if x.length ≤ sizeLine then some (.str (cutS x l h), 0) else none := rfl
@[simp] theorem dInt_str (x : Str) : dInt [.str x] = if x.length ≤ 640 then (PySem.intText? x).map fun n => (.int n, 0) else none := rfl
theorem str_iff (a b : Str) : a = b ↔ tl a = tl b := ⟨fun h => by rw [h], ext_tl⟩
theorem ch_iff {c k : Nat} {s : Str} (hs : tl s = [k]) : (⟨#[c]⟩ : Str) = s ↔ c = k := by
  rw [str_iff, hs]
  show [c] = [k] ↔ _
  simp
theorem cut_first (x : Str) : tl (cutS x none (some 1)) = (tl x).take 1 := by
  unfold cutS
  have : x.length = x.cps.size := rfl
  simp [HT.sIx, tl, this]
theorem cut_rest (x : Str) : tl (cutS x (some 1) none) = (tl x).tail := by
  unfold cutS
  have hs : x.length = x.cps.toList.length := len_tl x
  simp only [HT.sIx, tl, hs]
  cases x.cps.toList with
  | nil => rfl
  | cons c r => simp
theorem cut_len (x : Str) (l h : Option Int) : (cutS x l h).length ≤ x.length := cutS_length x l h
end Rf
namespace NS
open PySem PySem.Spec PyProof.Rows L2 Rf
/-! ### the text -/
def topS (i : Nat) : Stmt := PySem.Challenge.pw_handpiles_k75_whole_texts_read_back.main.body.getD i (.Pass ⟨0, 0, 0, 0⟩)
abbrev s_is_number : Stmt := topS 6
abbrev N_is_number : List Str := ["word", "sign"]
theorem sc_is_number : FnScope N_is_number ["word"] (defScope s_is_number) := ⟨rfl, rfl, rfl, by decide +kernel, rfl, by decide +kernel, by decide +kernel⟩
abbrev s_is_card : Stmt := topS 7
abbrev N_is_card : List Str := ["word"]
theorem sc_is_card : FnScope N_is_card ["word"] (defScope s_is_card) := ⟨rfl, rfl, rfl, by decide +kernel, rfl, by decide +kernel, by decide +kernel⟩
abbrev s_cards_in : Stmt := topS 8
abbrev N_cards_in : List Str := ["part", "text", "cards", "word"]
theorem sc_cards_in : FnScope N_cards_in ["part", "text"] (defScope s_cards_in) := ⟨rfl, rfl, rfl, by decide +kernel, rfl, by decide +kernel, by decide +kernel⟩
abbrev s_read_row : Stmt := topS 9
abbrev N_read_row : List Str := ["text"]
theorem sc_read_row : FnScope N_read_row ["text"] (defScope s_read_row) := ⟨rfl, rfl, rfl, by decide +kernel, rfl, by decide +kernel, by decide +kernel⟩
abbrev s_read_piles : Stmt := topS 10
abbrev N_read_piles : List Str := ["text", "part"]
theorem sc_read_piles : FnScope N_read_piles ["text"] (defScope s_read_piles) := ⟨rfl, rfl, rfl, by decide +kernel, rfl, by decide +kernel, by decide +kernel⟩
abbrev s_read_way : Stmt := topS 11
abbrev N_read_way : List Str := ["text", "way", "word", "parts"]
theorem sc_read_way : FnScope N_read_way ["text"] (defScope s_read_way) := ⟨rfl, rfl, rfl, by decide +kernel, rfl, by decide +kernel, by decide +kernel⟩
abbrev s_show_row : Stmt := topS 13
abbrev N_show_row : List Str := ["row", "card"]
theorem sc_show_row : FnScope N_show_row ["row"] (defScope s_show_row) := ⟨rfl, rfl, rfl, by decide +kernel, rfl, by decide +kernel, by decide +kernel⟩
abbrev s_show_piles : Stmt := topS 14
abbrev N_show_piles : List Str := ["piles", "pile"]
theorem sc_show_piles : FnScope N_show_piles ["piles"] (defScope s_show_piles) := ⟨rfl, rfl, rfl, by decide +kernel, rfl, by decide +kernel, by decide +kernel⟩
abbrev s_show_way : Stmt := topS 15
abbrev N_show_way : List Str := ["way", "index", "pile"]
theorem sc_show_way : FnScope N_show_way ["way"] (defScope s_show_way) := ⟨rfl, rfl, rfl, by decide +kernel, rfl, by decide +kernel, by decide +kernel⟩
abbrev s_law_cell_at : Stmt := topS 17
abbrev N_law_cell_at : List Str := ["script", "place"]
theorem sc_law_cell_at : FnScope N_law_cell_at ["script", "place"] (defScope s_law_cell_at) := ⟨rfl, rfl, rfl, by decide +kernel, rfl, by decide +kernel, by decide +kernel⟩
abbrev s_law_source : Stmt := topS 18
abbrev N_law_source : List Str := ["script", "place", "cell"]
theorem sc_law_source : FnScope N_law_source ["script", "place"] (defScope s_law_source) := ⟨rfl, rfl, rfl, by decide +kernel, rfl, by decide +kernel, by decide +kernel⟩
abbrev s_law_draw : Stmt := topS 19
abbrev N_law_draw : List Str := ["source", "many", "left", "step", "mixed"]
theorem sc_law_draw : FnScope N_law_draw ["source", "many"] (defScope s_law_draw) := ⟨rfl, rfl, rfl, by decide +kernel, rfl, by decide +kernel, by decide +kernel⟩
abbrev s_law_same : Stmt := topS 20
abbrev N_law_same : List Str := ["found", "due", "one", "other"]
theorem sc_law_same : FnScope N_law_same ["found", "due"] (defScope s_law_same) := ⟨rfl, rfl, rfl, by decide +kernel, rfl, by decide +kernel, by decide +kernel⟩
abbrev s_law_thing : Stmt := topS 21
abbrev N_law_thing : List Str := ["script", "source", "kind", "limit", "span", "cards", "card", "heaps", "heap", "place", "cell"]
theorem sc_law_thing : FnScope N_law_thing ["script", "source", "kind", "limit"] (defScope s_law_thing) := ⟨rfl, rfl, rfl, by decide +kernel, rfl, by decide +kernel, by decide +kernel⟩
abbrev s_law_text : Stmt := topS 22
abbrev N_law_text : List Str := ["kind", "thing"]
theorem sc_law_text : FnScope N_law_text ["kind", "thing"] (defScope s_law_text) := ⟨rfl, rfl, rfl, by decide +kernel, rfl, by decide +kernel, by decide +kernel⟩
abbrev s_law_back : Stmt := topS 23
abbrev N_law_back : List Str := ["kind", "text0"]
theorem sc_law_back : FnScope N_law_back ["kind", "text0"] (defScope s_law_back) := ⟨rfl, rfl, rfl, by decide +kernel, rfl, by decide +kernel, by decide +kernel⟩
abbrev s_law : Stmt := topS 24
abbrev N_law : List Str := ["script", "turn", "source", "choice", "thing", "other", "one_text", "other_text", "told", "inner", "part"]
theorem sc_law : FnScope N_law ["script"] (defScope s_law) := ⟨rfl, rfl, rfl, by decide +kernel, rfl, by decide +kernel, by decide +kernel⟩
structure Txt (K : PySem.W.Frag) (mg : Str → Option Value) where
  f_is_number : Addr
  d_is_number : FuncData
  F_is_number : Fun K "is_number" "is_number" s_is_number f_is_number d_is_number
  g_is_number : mg "is_number" = some (.ref f_is_number)
  b_is_number : Binds K d_is_number ["word"] []
  f_is_card : Addr
  d_is_card : FuncData
  F_is_card : Fun K "is_card" "is_card" s_is_card f_is_card d_is_card
  g_is_card : mg "is_card" = some (.ref f_is_card)
  b_is_card : Binds K d_is_card ["word"] []
  f_cards_in : Addr
  d_cards_in : FuncData
  F_cards_in : Fun K "cards_in" "cards_in" s_cards_in f_cards_in d_cards_in
  g_cards_in : mg "cards_in" = some (.ref f_cards_in)
  b_cards_in : Binds K d_cards_in ["part", "text"] []
  f_read_row : Addr
  d_read_row : FuncData
  F_read_row : Fun K "read_row" "read_row" s_read_row f_read_row d_read_row
  g_read_row : mg "read_row" = some (.ref f_read_row)
  b_read_row : Binds K d_read_row ["text"] []
  k_read_row_text : KBn K d_read_row ["text"] 0 ["text"] (fun _ ws => pId ws) (fun _ ws => pId ws)
  f_read_piles : Addr
  d_read_piles : FuncData
  F_read_piles : Fun K "read_piles" "read_piles" s_read_piles f_read_piles d_read_piles
  g_read_piles : mg "read_piles" = some (.ref f_read_piles)
  b_read_piles : Binds K d_read_piles ["text"] []
  k_read_piles_text : KBn K d_read_piles ["text"] 0 ["text"] (fun _ ws => pId ws) (fun _ ws => pId ws)
  f_read_way : Addr
  d_read_way : FuncData
  F_read_way : Fun K "read_way" "read_way" s_read_way f_read_way d_read_way
  g_read_way : mg "read_way" = some (.ref f_read_way)
  b_read_way : Binds K d_read_way ["text"] []
  k_read_way_text : KBn K d_read_way ["text"] 0 ["text"] (fun _ ws => pId ws) (fun _ ws => pId ws)
  f_show_row : Addr
  d_show_row : FuncData
  F_show_row : Fun K "show_row" "show_row" s_show_row f_show_row d_show_row
  g_show_row : mg "show_row" = some (.ref f_show_row)
  b_show_row : Binds K d_show_row ["row"] []
  f_show_piles : Addr
  d_show_piles : FuncData
  F_show_piles : Fun K "show_piles" "show_piles" s_show_piles f_show_piles d_show_piles
  g_show_piles : mg "show_piles" = some (.ref f_show_piles)
  b_show_piles : Binds K d_show_piles ["piles"] []
  f_show_way : Addr
  d_show_way : FuncData
  F_show_way : Fun K "show_way" "show_way" s_show_way f_show_way d_show_way
  g_show_way : mg "show_way" = some (.ref f_show_way)
  b_show_way : Binds K d_show_way ["way"] []
  f_law_cell_at : Addr
  d_law_cell_at : FuncData
  F_law_cell_at : Fun K "_law_cell_at" "_law_cell_at" s_law_cell_at f_law_cell_at d_law_cell_at
  g_law_cell_at : mg "_law_cell_at" = some (.ref f_law_cell_at)
  b_law_cell_at : Binds K d_law_cell_at ["script", "place"] []
  f_law_source : Addr
  d_law_source : FuncData
  F_law_source : Fun K "_law_source" "_law_source" s_law_source f_law_source d_law_source
  g_law_source : mg "_law_source" = some (.ref f_law_source)
  b_law_source : Binds K d_law_source ["script", "place"] []
  f_law_draw : Addr
  d_law_draw : FuncData
  F_law_draw : Fun K "_law_draw" "_law_draw" s_law_draw f_law_draw d_law_draw
  g_law_draw : mg "_law_draw" = some (.ref f_law_draw)
  b_law_draw : Binds K d_law_draw ["source", "many"] []
  f_law_same : Addr
  d_law_same : FuncData
  F_law_same : Fun K "_law_same" "_law_same" s_law_same f_law_same d_law_same
  g_law_same : mg "_law_same" = some (.ref f_law_same)
  b_law_same : Binds K d_law_same ["found", "due"] []
  f_law_thing : Addr
  d_law_thing : FuncData
  F_law_thing : Fun K "_law_thing" "_law_thing" s_law_thing f_law_thing d_law_thing
  g_law_thing : mg "_law_thing" = some (.ref f_law_thing)
  b_law_thing : Binds K d_law_thing ["script", "source", "kind", "limit"] []
  f_law_text : Addr
  d_law_text : FuncData
  F_law_text : Fun K "_law_text" "_law_text" s_law_text f_law_text d_law_text
  g_law_text : mg "_law_text" = some (.ref f_law_text)
  b_law_text : Binds K d_law_text ["kind", "thing"] []
  f_law_back : Addr
  d_law_back : FuncData
  F_law_back : Fun K "_law_back" "_law_back" s_law_back f_law_back d_law_back
  g_law_back : mg "_law_back" = some (.ref f_law_back)
  b_law_back : Binds K d_law_back ["kind", "text0"] []
  f_law : Addr
  d_law : FuncData
  F_law : Fun K "law" "law" s_law f_law d_law
  g_law : mg "law" = some (.ref f_law)
  b_law : Binds K d_law ["script"] []
  z_abs : mg "abs" = none
  z_all : mg "all" = none
  z_bool : mg "bool" = none
  z_int : mg "int" = none
  z_isinstance : mg "isinstance" = none
  z_len : mg "len" = none
  z_list : mg "list" = none
  z_range : mg "range" = none
  z_str : mg "str" = none
  z_tuple : mg "tuple" = none
  z_zip : mg "zip" = none
  t_DIGITS : Tok
  c_DIGITS : mg "DIGITS" = some (.str "0123456789" t_DIGITS)
  t_MOST_DIGITS : Tok
  c_MOST_DIGITS : mg "MOST_DIGITS" = some (.int 60 t_MOST_DIGITS)
section
variable {P : Program} {w : World} {K : PySem.W.Frag} {mg : Str → Option Value} {base : Heap}
def ck_read_piles_0 : En → Nat := fun (e : En) => 1
def b_is_number_0 : M Fl :=
  (mSeq (mIf (mT (mF false dNotInS (mCons (mV 1) (mCons (mC (.str "0123456789")) mNil)))) (mSeq (mRet (mC (.bl false)))
  mNx) mNx)
  mNx)
def l_is_number_0 : M Fl :=
  (mFor (iS (mV 0)) (gN 1) b_is_number_0)
def m_is_number : M Fl :=
  (mSeq (mIf (mOr (mT (mF false dEq (mCons (mV 0) (mCons (mC (.str "")) mNil)))) (mT (mF true dGt (mCons (mF false dLen (mCons (mV 0) mNil)) (mCons (mC (.int 60)) mNil))))) (mSeq (mRet (mC (.bl false)))
  mNx) mNx)
  (mSeq (mIf (mAnd (mT (mF false dEq (mCons (mF true dItem (mCons (mV 0) (mCons (mC (.int 0)) mNil))) (mCons (mC (.str "0")) mNil)))) (mT (mF true dGt (mCons (mF false dLen (mCons (mV 0) mNil)) (mCons (mC (.int 1)) mNil))))) (mSeq (mRet (mC (.bl false)))
  mNx) mNx)
  (mSeq l_is_number_0
  (mSeq (mRet (mC (.bl true)))
  mNx))))
def g_is_number : List D → Option Ro := runFn0 m_is_number N_is_number.length [0]
theorem ok_is_number (T : Txt K mg) : FnOk P w K mg base CX0 1 T.f_is_number T.d_is_number ["word"] (spOf K [0] g_is_number) :=
    fn0 (N := N_is_number) (m := m_is_number) T.F_is_number sc_is_number rfl (by decide) fun cdv A outer s H E p hr hpin => by
      unfold m_is_number l_is_number_0 b_is_number_0
      refine rss_cons (rs_if (rw_or (rt_cmp (op_eqX hr.units) s_eq (re_v 0) re_str) (rw_or1 (rt_cmp op_gtD s_cmp (re_cb call_len s_len (by rfl) T.z_len PySem.boot_len (ra_cons (re_v 0) ra_nil)) (re_gint (by rfl) T.c_MOST_DIGITS)))).rt ?_ ?_) ?_
      · refine rss_cons (rs_ret re_bl) ?_
        exact rss_nil
      · exact rss_nil
      refine rss_cons (rs_if (rw_and (rt_cmp (op_eqX hr.units) s_eq (re_ix (re_v 0) re_int) re_str) (rw_and1 (rt_cmp op_gtD s_cmp (re_cb call_len s_len (by rfl) T.z_len PySem.boot_len (ra_cons (re_v 0) ra_nil)) re_int))).rt ?_ ?_) ?_
      · refine rss_cons (rs_ret re_bl) ?_
        exact rss_nil
      · exact rss_nil
      refine rss_cons (rs_for PassesOwn.never rfl (ri_str (re_v 0)) (rg_of (pg_name (i := 1) sc_is_number.nd rfl (by first | exact Or.inl rfl | exact Or.inr rfl)) (np hpin (by decide))) ?_) ?_
      · refine rss_cons (rs_if (rt_cmp op_notin_str s_notInS (re_v 1) (re_gstr (by rfl) T.c_DIGITS)) ?_ ?_) ?_
        · refine rss_cons (rs_ret re_bl) ?_
          exact rss_nil
        · exact rss_nil
        exact rss_nil
      refine rss_cons (rs_ret re_bl) ?_
      exact rss_nil

def m_is_card : M Fl :=
  (mSeq (mIf (mT (mF false dEq (mCons (mSl (mV 0) mPn (mPt (mC (.int 1)))) (mCons (mC (.str "-")) mNil)))) (mSeq (mRet (mAndV (mCall g_is_number (mCons (mSl (mV 0) (mPt (mC (.int 1))) mPn) mNil)) (mF false dNe (mCons (mV 0) (mCons (mC (.str "-0")) mNil)))))
  mNx) mNx)
  (mSeq (mRet (mCall g_is_number (mCons (mV 0) mNil)))
  mNx))
def g_is_card : List D → Option Ro := runFn0 m_is_card N_is_card.length [0]
theorem ok_is_card (T : Txt K mg) : FnOk P w K mg base CX0 2 T.f_is_card T.d_is_card ["word"] (spOf K [0] g_is_card) :=
    fn0 (N := N_is_card) (m := m_is_card) T.F_is_card sc_is_card rfl (by decide) fun cdv A outer s H E p hr hpin => by
      unfold m_is_card
      refine rss_cons (rs_if (rt_cmp (op_eqX hr.units) s_eq (re_sl (re_v 0) ro_none (ro_some re_int)) re_str) ?_ ?_) ?_
      · refine rss_cons (rs_ret (re_andV (re_call (ok_is_number T) (hr.mono (by decide)) (by rfl) T.g_is_number T.F_is_number.kp T.b_is_number (fun _ => passes0) (ra_cons (re_sl (re_v 0) (ro_some re_int) ro_none) ra_nil)) (re_last (re_cmp (op_neX hr.units) s_ne (re_v 0) re_str)))) ?_
        exact rss_nil
      · exact rss_nil
      refine rss_cons (rs_ret (re_call (ok_is_number T) (hr.mono (by decide)) (by rfl) T.g_is_number T.F_is_number.kp T.b_is_number (fun _ => passes0) (ra_cons (re_v 0) ra_nil))) ?_
      exact rss_nil

def b_cards_in_0 : M Fl :=
  (mSeq (mIf (mNot (mTru (mCall g_is_card (mCons (mV 3) mNil)))) (mSeq mDead
  mNx) mNx)
  (mSeq (mExpr (mMut 2 fAppend (mCons (mF true dInt (mCons (mV 3) mNil)) mNil)))
  mNx))
def l_cards_in_0 : M Fl :=
  (mFor (iL (mM1 dSplit (mV 0) (mC (.str " ")))) (gN 3) b_cards_in_0)
def m_cards_in : M Fl :=
  (mSeq (mAsg 2 (mLst mNil))
  (mSeq l_cards_in_0
  (mSeq (mRet (mV 2))
  mNx)))
def g_cards_in : List D → Option Ro := runFn0 m_cards_in N_cards_in.length [0, 0]
theorem ok_cards_in (T : Txt K mg) : FnOk P w K mg base CX0 3 T.f_cards_in T.d_cards_in ["part", "text"] (spOf K [0, 0] g_cards_in) :=
    fn0 (N := N_cards_in) (m := m_cards_in) T.F_cards_in sc_cards_in rfl (by decide) fun cdv A outer s H E p hr hpin => by
      unfold m_cards_in l_cards_in_0 b_cards_in_0
      refine rss_cons (rs_asg (i := 2) sc_cards_in.nd rfl (by first | exact Or.inl rfl | exact Or.inr rfl) (re_lst ra_nil) (np hpin (by decide))) ?_
      refine rss_cons (rs_for PassesOwn.never rfl (ri_list (re_split (re_v 0) re_str)) (rg_of (pg_name (i := 3) sc_cards_in.nd rfl (by first | exact Or.inl rfl | exact Or.inr rfl)) (np hpin (by decide))) ?_) ?_
      · refine rss_cons (rs_if (rt_not (rt_tru (re_call (ok_is_card T) (hr.mono (by decide)) (by rfl) T.g_is_card T.F_is_card.kp T.b_is_card (fun _ => passes0) (ra_cons (re_v 3) ra_nil)))) ?_ ?_) ?_
        · refine rss_cons rs_dead ?_
          exact rss_nil
        · exact rss_nil
        refine rss_cons (rs_expr (re_append (j := 2) (re_ct call_intD s_int (by rfl) T.z_int PyProof.Rows.boot_int (ra_cons (re_v 3) ra_nil)))) ?_
        exact rss_nil
      refine rss_cons (rs_ret (re_v 2)) ?_
      exact rss_nil

def m_read_row : M Fl :=
  (mSeq (mIf (mT (mF false dEq (mCons (mV 0) (mCons (mC (.str "-")) mNil)))) (mSeq (mRet (mLst mNil))
  mNx) mNx)
  (mSeq (mRet (mCall g_cards_in (mCons (mV 0) (mCons (mV 0) mNil))))
  mNx))
def g_read_row : List D → Option Ro := runFn0 m_read_row N_read_row.length [0]
theorem ok_read_row (T : Txt K mg) : FnOk P w K mg base CX0 4 T.f_read_row T.d_read_row ["text"] (spOf K [0] g_read_row) :=
    fn0 (N := N_read_row) (m := m_read_row) T.F_read_row sc_read_row rfl (by decide) fun cdv A outer s H E p hr hpin => by
      unfold m_read_row
      refine rss_cons (rs_if (rt_cmp (op_eqX hr.units) s_eq (re_v 0) re_str) ?_ ?_) ?_
      · refine rss_cons (rs_ret (re_lst ra_nil)) ?_
        exact rss_nil
      · exact rss_nil
      refine rss_cons (rs_ret (re_call (ok_cards_in T) (hr.mono (by decide)) (by rfl) T.g_cards_in T.F_cards_in.kp T.b_cards_in (fun _ => passes0) (ra_cons (re_v 0) (ra_cons (re_v 0) ra_nil)))) ?_
      exact rss_nil

def c_read_piles_0 : M Op :=
  (mLc [1] (ck_read_piles_0) (iL (mM1 dSplit (mV 0) (mC (.str " | ")))) (gN 1) mYes (mCall g_cards_in (mCons (mV 1) (mCons (mV 0) mNil))))
def m_read_piles : M Fl :=
  (mSeq (mIf (mT (mF false dEq (mCons (mV 0) (mCons (mC (.str "-")) mNil)))) (mSeq (mRet (mLst mNil))
  mNx) mNx)
  (mSeq (mRet c_read_piles_0)
  mNx))
def g_read_piles : List D → Option Ro := runFn0 m_read_piles N_read_piles.length [0]
theorem ok_read_piles (T : Txt K mg) : FnOk P w K mg base CX0 4 T.f_read_piles T.d_read_piles ["text"] (spOf K [0] g_read_piles) :=
    fn0 (N := N_read_piles) (m := m_read_piles) T.F_read_piles sc_read_piles rfl (by decide) fun cdv A outer s H E p hr hpin => by
      unfold m_read_piles c_read_piles_0
      refine rss_cons (rs_if (rt_cmp (op_eqX hr.units) s_eq (re_v 0) re_str) ?_ ?_) ?_
      · refine rss_cons (rs_ret (re_lst ra_nil)) ?_
        exact rss_nil
      · exact rss_nil
      refine rss_cons (rs_ret (re_lc (own := [("part", 1)]) (ck_read_piles_0) rfl sc_read_piles.nd (ri_list (re_split (re_v 0) re_str)) (blkOk_by (own := [("part", 1)]) (N := N_read_piles) (sc := defScope s_read_piles) (by decide +kernel)) (npl hpin (by decide)) (fun _ _ _ _ _ => (rg_of (pg_name (i := 1) sc_read_piles.nd rfl (by first | exact Or.inl rfl | exact Or.inr rfl)) (np hpin (by decide)))) (fun _ _ _ _ _ => rts_nil) (fun _ _ _ _ _ => (re_call (ok_cards_in T) (hr.mono (by decide)) (by rfl) T.g_cards_in T.F_cards_in.kp T.b_cards_in (fun _ => passes0) (ra_cons (re_v 1) (ra_cons (re_v 0) ra_nil)))))) ?_
      exact rss_nil

def b_read_way_0 : M Fl :=
  (mSeq (mAsg 3 (mM1 dSplit (mV 2) (mC (.str ":"))))
  (mSeq (mIf (mOr (mT (mF false dNe (mCons (mF false dLen (mCons (mV 3) mNil)) (mCons (mC (.int 2)) mNil)))) (mOr (mNot (mTru (mCall g_is_number (mCons (mF true dItem (mCons (mV 3) (mCons (mC (.int 0)) mNil))) mNil)))) (mNot (mTru (mCall g_is_number (mCons (mF true dItem (mCons (mV 3) (mCons (mC (.int 1)) mNil))) mNil)))))) (mSeq mDead
  mNx) mNx)
  (mSeq (mExpr (mMut 1 fAppend (mCons (mTup (mCons (mF true dInt (mCons (mF true dItem (mCons (mV 3) (mCons (mC (.int 0)) mNil))) mNil)) (mCons (mF true dInt (mCons (mF true dItem (mCons (mV 3) (mCons (mC (.int 1)) mNil))) mNil)) mNil))) mNil)))
  mNx)))
def l_read_way_0 : M Fl :=
  (mFor (iL (mM1 dSplit (mV 0) (mC (.str " ")))) (gN 2) b_read_way_0)
def m_read_way : M Fl :=
  (mSeq (mIf (mT (mF false dEq (mCons (mV 0) (mCons (mC (.str "-")) mNil)))) (mSeq (mRet (mLst mNil))
  mNx) mNx)
  (mSeq (mAsg 1 (mLst mNil))
  (mSeq l_read_way_0
  (mSeq (mRet (mV 1))
  mNx))))
def g_read_way : List D → Option Ro := runFn0 m_read_way N_read_way.length [0]
theorem ok_read_way (T : Txt K mg) : FnOk P w K mg base CX0 2 T.f_read_way T.d_read_way ["text"] (spOf K [0] g_read_way) :=
    fn0 (N := N_read_way) (m := m_read_way) T.F_read_way sc_read_way rfl (by decide) fun cdv A outer s H E p hr hpin => by
      unfold m_read_way l_read_way_0 b_read_way_0
      refine rss_cons (rs_if (rt_cmp (op_eqX hr.units) s_eq (re_v 0) re_str) ?_ ?_) ?_
      · refine rss_cons (rs_ret (re_lst ra_nil)) ?_
        exact rss_nil
      · exact rss_nil
      refine rss_cons (rs_asg (i := 1) sc_read_way.nd rfl (by first | exact Or.inl rfl | exact Or.inr rfl) (re_lst ra_nil) (np hpin (by decide))) ?_
      refine rss_cons (rs_for PassesOwn.never rfl (ri_list (re_split (re_v 0) re_str)) (rg_of (pg_name (i := 2) sc_read_way.nd rfl (by first | exact Or.inl rfl | exact Or.inr rfl)) (np hpin (by decide))) ?_) ?_
      · refine rss_cons (rs_asg (i := 3) sc_read_way.nd rfl (by first | exact Or.inl rfl | exact Or.inr rfl) (re_split (re_v 2) re_str) (np hpin (by decide))) ?_
        refine rss_cons (rs_if (rw_or (rt_cmp (op_neX hr.units) s_ne (re_cb call_len s_len (by rfl) T.z_len PySem.boot_len (ra_cons (re_v 3) ra_nil)) re_int) (rw_or (rt_not (rt_tru (re_call (ok_is_number T) (hr.mono (by decide)) (by rfl) T.g_is_number T.F_is_number.kp T.b_is_number (fun _ => passes0) (ra_cons (re_ix (re_v 3) re_int) ra_nil)))) (rw_or1 (rt_not (rt_tru (re_call (ok_is_number T) (hr.mono (by decide)) (by rfl) T.g_is_number T.F_is_number.kp T.b_is_number (fun _ => passes0) (ra_cons (re_ix (re_v 3) re_int) ra_nil))))))).rt ?_ ?_) ?_
        · refine rss_cons rs_dead ?_
          exact rss_nil
        · exact rss_nil
        refine rss_cons (rs_expr (re_append (j := 1) (re_tup (ra_cons (re_ct call_intD s_int (by rfl) T.z_int PyProof.Rows.boot_int (ra_cons (re_ix (re_v 3) re_int) ra_nil)) (ra_cons (re_ct call_intD s_int (by rfl) T.z_int PyProof.Rows.boot_int (ra_cons (re_ix (re_v 3) re_int) ra_nil)) ra_nil))))) ?_
        exact rss_nil
      refine rss_cons (rs_ret (re_v 1)) ?_
      exact rss_nil

def c_show_row_0 : M Op :=
  (mLc [1] (fun _ => 0) (iL (mV 0)) (gN 1) mYes (mF true dStr (mCons (mV 1) mNil)))
def m_show_row : M Fl :=
  (mSeq (mIf (mNot (mTru (mV 0))) (mSeq (mRet (mC (.str "-")))
  mNx) mNx)
  (mSeq (mRet (mM1 dJoin (mC (.str " ")) c_show_row_0))
  mNx))
def g_show_row : List D → Option Ro := runFn0 m_show_row N_show_row.length [0]
theorem ok_show_row (T : Txt K mg) : FnOk P w K mg base CX0 1 T.f_show_row T.d_show_row ["row"] (spOf K [0] g_show_row) :=
    fn0 (N := N_show_row) (m := m_show_row) T.F_show_row sc_show_row rfl (by decide) fun cdv A outer s H E p hr hpin => by
      unfold m_show_row c_show_row_0
      refine rss_cons (rs_if (rt_not (rt_tru (re_v 0))) ?_ ?_) ?_
      · refine rss_cons (rs_ret re_str) ?_
        exact rss_nil
      · exact rss_nil
      refine rss_cons (rs_ret (re_join re_str (re_lc (own := [("card", 1)]) (fun _ => 0) rfl sc_show_row.nd (ri_list (re_v 0)) (blkOk_by (own := [("card", 1)]) (N := N_show_row) (sc := defScope s_show_row) (by decide +kernel)) (npl hpin (by decide)) (fun _ _ _ _ _ => (rg_of (pg_name (i := 1) sc_show_row.nd rfl (by first | exact Or.inl rfl | exact Or.inr rfl)) (np hpin (by decide)))) (fun _ _ _ _ _ => rts_nil) (fun _ _ _ _ _ => (re_ct call_str_int s_str (by rfl) T.z_str PyProof.Rows.boot_str (ra_cons (re_v 1) ra_nil)))))) ?_
      exact rss_nil

def c_show_piles_0 : M Op :=
  (mLc [1] (fun _ => 0) (iL (mV 0)) (gN 1) mYes (mCall g_show_row (mCons (mV 1) mNil)))
def m_show_piles : M Fl :=
  (mSeq (mIf (mNot (mTru (mV 0))) (mSeq (mRet (mC (.str "-")))
  mNx) mNx)
  (mSeq (mRet (mM1 dJoin (mC (.str " | ")) c_show_piles_0))
  mNx))
def g_show_piles : List D → Option Ro := runFn0 m_show_piles N_show_piles.length [0]
theorem ok_show_piles (T : Txt K mg) : FnOk P w K mg base CX0 2 T.f_show_piles T.d_show_piles ["piles"] (spOf K [0] g_show_piles) :=
    fn0 (N := N_show_piles) (m := m_show_piles) T.F_show_piles sc_show_piles rfl (by decide) fun cdv A outer s H E p hr hpin => by
      unfold m_show_piles c_show_piles_0
      refine rss_cons (rs_if (rt_not (rt_tru (re_v 0))) ?_ ?_) ?_
      · refine rss_cons (rs_ret re_str) ?_
        exact rss_nil
      · exact rss_nil
      refine rss_cons (rs_ret (re_join re_str (re_lc (own := [("pile", 1)]) (fun _ => 0) rfl sc_show_piles.nd (ri_list (re_v 0)) (blkOk_by (own := [("pile", 1)]) (N := N_show_piles) (sc := defScope s_show_piles) (by decide +kernel)) (npl hpin (by decide)) (fun _ _ _ _ _ => (rg_of (pg_name (i := 1) sc_show_piles.nd rfl (by first | exact Or.inl rfl | exact Or.inr rfl)) (np hpin (by decide)))) (fun _ _ _ _ _ => rts_nil) (fun _ _ _ _ _ => (re_call (ok_show_row T) (hr.mono (by decide)) (by rfl) T.g_show_row T.F_show_row.kp T.b_show_row (fun _ => passes0) (ra_cons (re_v 1) ra_nil)))))) ?_
      exact rss_nil

def c_show_way_0 : M Op :=
  (mLc [1, 2] (fun _ => 0) (iL (mV 0)) (gT (gsCons (gN 1) (gsCons (gN 2) gsNil))) mYes (mJs [(mF true dFmt (mCons (mV 1) mNil)), (mC (.str ":")), (mF true dFmt (mCons (mV 2) mNil))] Str.empty))
def m_show_way : M Fl :=
  (mSeq (mIf (mNot (mTru (mV 0))) (mSeq (mRet (mC (.str "-")))
  mNx) mNx)
  (mSeq (mRet (mM1 dJoin (mC (.str " ")) c_show_way_0))
  mNx))
def g_show_way : List D → Option Ro := runFn0 m_show_way N_show_way.length [0]
theorem ok_show_way (T : Txt K mg) : FnOk P w K mg base CX0 1 T.f_show_way T.d_show_way ["way"] (spOf K [0] g_show_way) :=
    fn0 (N := N_show_way) (m := m_show_way) T.F_show_way sc_show_way rfl (by decide) fun cdv A outer s H E p hr hpin => by
      unfold m_show_way c_show_way_0
      refine rss_cons (rs_if (rt_not (rt_tru (re_v 0))) ?_ ?_) ?_
      · refine rss_cons (rs_ret re_str) ?_
        exact rss_nil
      · exact rss_nil
      refine rss_cons (rs_ret (re_join re_str (re_lc (own := [("index", 1), ("pile", 2)]) (fun _ => 0) rfl sc_show_way.nd (ri_list (re_v 0)) (blkOk_by (own := [("index", 1), ("pile", 2)]) (N := N_show_way) (sc := defScope s_show_way) (by decide +kernel)) (npl hpin (by decide)) (fun _ _ _ _ _ => (rg_tup rfl (rgs_cons (rg_of (pg_name (i := 1) sc_show_way.nd rfl (by first | exact Or.inl rfl | exact Or.inr rfl)) (np hpin (by decide))) (rgs_cons (rg_of (pg_name (i := 2) sc_show_way.nd rfl (by first | exact Or.inl rfl | exact Or.inr rfl)) (np hpin (by decide))) rgs_nil)))) (fun _ _ _ _ _ => rts_nil) (fun _ _ _ _ _ => (re_joined (.cons (re_fmt (re_v 1)) (.cons re_str (.cons (re_fmt (re_v 2)) RJ.nil)))))))) ?_
      exact rss_nil

def m_law_cell_at : M Fl :=
  (mSeq (mIf (mT (mF true dLt (mCons (mV 1) (mCons (mF false dLen (mCons (mV 0) mNil)) mNil)))) (mSeq (mRet (mF true dItem (mCons (mV 0) (mCons (mV 1) mNil))))
  mNx) mNx)
  (mSeq (mRet (mC (.int 0)))
  mNx))
def g_law_cell_at : List D → Option Ro := runFn0 m_law_cell_at N_law_cell_at.length [0, 0]
theorem ok_law_cell_at (T : Txt K mg) : FnOk P w K mg base CX0 1 T.f_law_cell_at T.d_law_cell_at ["script", "place"] (spOf K [0, 0] g_law_cell_at) :=
    fn0 (N := N_law_cell_at) (m := m_law_cell_at) T.F_law_cell_at sc_law_cell_at rfl (by decide) fun cdv A outer s H E p hr hpin => by
      unfold m_law_cell_at
      refine rss_cons (rs_if (rt_cmp op_ltD s_cmp (re_v 1) (re_cb call_len s_len (by rfl) T.z_len PySem.boot_len (ra_cons (re_v 0) ra_nil))) ?_ ?_) ?_
      · refine rss_cons (rs_ret (re_ix (re_v 0) (re_v 1))) ?_
        exact rss_nil
      · exact rss_nil
      refine rss_cons (rs_ret re_int) ?_
      exact rss_nil

def m_law_source : M Fl :=
  (mSeq (mAsg 2 (mCall g_law_cell_at (mCons (mV 0) (mCons (mV 1) mNil))))
  (mSeq (mIf (mT (mF true dGe (mCons (mV 2) (mCons (mF true dPow (mCons (mC (.int 10)) (mCons (mC (.int 18)) mNil))) mNil)))) (mSeq (mRet (mLst (mCons (mF true dSub (mCons (mV 2) (mCons (mF true dPow (mCons (mC (.int 10)) (mCons (mC (.int 18)) mNil))) mNil))) (mCons (mC (.int 1)) (mCons (mC (.int 0)) mNil)))))
  mNx) mNx)
  (mSeq (mRet (mLst (mCons (mV 2) (mCons (mC (.int 0)) (mCons (mF true dMul (mCons (mC (.int 17)) (mCons (mV 1) mNil))) mNil)))))
  mNx)))
def g_law_source : List D → Option Ro := runFn0 m_law_source N_law_source.length [0, 0]
theorem ok_law_source (T : Txt K mg) : FnOk P w K mg base CX0 2 T.f_law_source T.d_law_source ["script", "place"] (spOf K [0, 0] g_law_source) :=
    fn0 (N := N_law_source) (m := m_law_source) T.F_law_source sc_law_source rfl (by decide) fun cdv A outer s H E p hr hpin => by
      unfold m_law_source
      refine rss_cons (rs_asg (i := 2) sc_law_source.nd rfl (by first | exact Or.inl rfl | exact Or.inr rfl) (re_call (ok_law_cell_at T) (hr.mono (by decide)) (by rfl) T.g_law_cell_at T.F_law_cell_at.kp T.b_law_cell_at (fun _ => passes0) (ra_cons (re_v 0) (ra_cons (re_v 1) ra_nil))) (np hpin (by decide))) ?_
      refine rss_cons (rs_if (rt_cmp op_geD s_cmp (re_v 2) (re_op op_pow s_pow re_int re_int)) ?_ ?_) ?_
      · refine rss_cons (rs_ret (re_lst (ra_cons (re_op op_sub s_sub (re_v 2) (re_op op_pow s_pow re_int re_int)) (ra_cons re_int (ra_cons re_int ra_nil))))) ?_
        exact rss_nil
      · exact rss_nil
      refine rss_cons (rs_ret (re_lst (ra_cons (re_v 2) (ra_cons re_int (ra_cons (re_op op_mulD s_mul re_int (re_v 1)) ra_nil))))) ?_
      exact rss_nil

def m_law_draw : M Fl :=
  (mSeq (mAsg 2 (mF true dItem (mCons (mV 0) (mCons (mC (.int 0)) mNil))))
  (mSeq (mIf (mT (mF false dEq (mCons (mF true dItem (mCons (mV 0) (mCons (mC (.int 1)) mNil))) (mCons (mC (.int 1)) mNil)))) (mSeq (mSetI 0 (mC (.int 0)) (mF true dDiv (mCons (mV 2) (mCons (mV 1) mNil))))
  (mSeq (mRet (mF true dMod (mCons (mF true dInt (mCons (mV 2) mNil)) (mCons (mV 1) mNil))))
  mNx)) mNx)
  (mSeq (mAsg 3 (mF true dAdd (mCons (mF true dItem (mCons (mV 0) (mCons (mC (.int 2)) mNil))) (mCons (mC (.int 1)) mNil))))
  (mSeq (mSetI 0 (mC (.int 2)) (mV 3))
  (mSeq (mAsg 4 (mF true dMul (mCons (mF true dAdd (mCons (mF true dMod (mCons (mF true dInt (mCons (mV 2) mNil)) (mCons (mF true dAdd (mCons (mF true dPow (mCons (mC (.int 10)) (mCons (mC (.int 18)) mNil))) (mCons (mC (.int 9)) mNil))) mNil))) (mCons (mF true dMul (mCons (mC (.int 5003)) (mCons (mV 3) mNil))) mNil))) (mCons (mF true dAdd (mCons (mF true dMul (mCons (mC (.int 611953)) (mCons (mV 3) mNil))) (mCons (mC (.int 15485863)) mNil))) mNil))))
  (mSeq (mAsg 4 (mF true dMod (mCons (mF true dInt (mCons (mF true dMul (mCons (mV 4) (mCons (mV 4) mNil))) mNil)) (mCons (mF true dAdd (mCons (mF true dPow (mCons (mC (.int 10)) (mCons (mC (.int 39)) mNil))) (mCons (mC (.int 7)) mNil))) mNil))))
  (mSeq (mAsg 4 (mF true dMod (mCons (mF true dInt (mCons (mF true dMul (mCons (mF true dAdd (mCons (mV 4) (mCons (mV 3) mNil))) (mCons (mF true dAdd (mCons (mF true dDiv (mCons (mV 4) (mCons (mC (.int 7)) mNil))) (mCons (mC (.int 32452843)) mNil))) mNil))) mNil)) (mCons (mF true dAdd (mCons (mF true dPow (mCons (mC (.int 10)) (mCons (mC (.int 39)) mNil))) (mCons (mC (.int 23)) mNil))) mNil))))
  (mSeq (mRet (mF true dMod (mCons (mF true dInt (mCons (mF true dDiv (mCons (mV 4) (mCons (mC (.int 1009)) mNil))) mNil)) (mCons (mV 1) mNil))))
  mNx))))))))
def g_law_draw : List D → Option Ro := runFn0 m_law_draw N_law_draw.length [1, 0]
theorem ok_law_draw (T : Txt K mg) : FnOk P w K mg base CX0 1 T.f_law_draw T.d_law_draw ["source", "many"] (spOf K [1, 0] g_law_draw) :=
    fn0 (N := N_law_draw) (m := m_law_draw) T.F_law_draw sc_law_draw rfl (by decide) fun cdv A outer s H E p hr hpin => by
      unfold m_law_draw
      refine rss_cons (rs_asg (i := 2) sc_law_draw.nd rfl (by first | exact Or.inl rfl | exact Or.inr rfl) (re_ix (re_v 0) re_int) (np hpin (by decide))) ?_
      refine rss_cons (rs_if (rt_cmp (op_eqX hr.units) s_eq (re_ix (re_v 0) re_int) re_int) ?_ ?_) ?_
      · refine rss_cons (rs_setI (j := 0) re_int (re_op op_fdivW s_div (re_v 2) (re_v 1))) ?_
        refine rss_cons (rs_ret (re_op op_mod s_mod (re_ct call_intD s_int (by rfl) T.z_int PyProof.Rows.boot_int (ra_cons (re_v 2) ra_nil)) (re_v 1))) ?_
        exact rss_nil
      · exact rss_nil
      refine rss_cons (rs_asg (i := 3) sc_law_draw.nd rfl (by first | exact Or.inl rfl | exact Or.inr rfl) (re_op op_addD s_add (re_ix (re_v 0) re_int) re_int) (np hpin (by decide))) ?_
      refine rss_cons (rs_setI (j := 0) re_int (re_v 3)) ?_
      refine rss_cons (rs_asg (i := 4) sc_law_draw.nd rfl (by first | exact Or.inl rfl | exact Or.inr rfl) (re_op op_mulD s_mul (re_op op_addD s_add (re_op op_mod s_mod (re_ct call_intD s_int (by rfl) T.z_int PyProof.Rows.boot_int (ra_cons (re_v 2) ra_nil)) (re_op op_addD s_add (re_op op_pow s_pow re_int re_int) re_int)) (re_op op_mulD s_mul re_int (re_v 3))) (re_op op_addD s_add (re_op op_mulD s_mul re_int (re_v 3)) re_int)) (np hpin (by decide))) ?_
      refine rss_cons (rs_asg (i := 4) sc_law_draw.nd rfl (by first | exact Or.inl rfl | exact Or.inr rfl) (re_op op_mod s_mod (re_ct call_intD s_int (by rfl) T.z_int PyProof.Rows.boot_int (ra_cons (re_op op_mulD s_mul (re_v 4) (re_v 4)) ra_nil)) (re_op op_addD s_add (re_op op_pow s_pow re_int re_int) re_int)) (np hpin (by decide))) ?_
      refine rss_cons (rs_asg (i := 4) sc_law_draw.nd rfl (by first | exact Or.inl rfl | exact Or.inr rfl) (re_op op_mod s_mod (re_ct call_intD s_int (by rfl) T.z_int PyProof.Rows.boot_int (ra_cons (re_op op_mulD s_mul (re_op op_addD s_add (re_v 4) (re_v 3)) (re_op op_addD s_add (re_op op_fdivW s_div (re_v 4) re_int) re_int)) ra_nil)) (re_op op_addD s_add (re_op op_pow s_pow re_int re_int) re_int)) (np hpin (by decide))) ?_
      refine rss_cons (rs_ret (re_op op_mod s_mod (re_ct call_intD s_int (by rfl) T.z_int PyProof.Rows.boot_int (ra_cons (re_op op_fdivW s_div (re_v 4) re_int) ra_nil)) (re_v 1))) ?_
      exact rss_nil

def c_law_same_0 (rec : List D → Option Ro) : M Op :=
  (mLc [2, 3] (fun _ => 0) (iZ (mCons (mV 0) (mCons (mV 1) mNil))) (gT (gsCons (gN 2) (gsCons (gN 3) gsNil))) mYes (mCall rec (mCons (mV 2) (mCons (mV 3) mNil))))
def m_law_same (rec : List D → Option Ro) : M Fl :=
  (mSeq (mIf (mTru (mF false (dIsi2 "list" "tuple") (mCons (mV 1) mNil))) (mSeq (mIf (mAnd (mTru (mF false (dIsi "list") (mCons (mV 1) mNil))) (mNot (mTru (mF false (dIsi "list") (mCons (mV 0) mNil))))) (mSeq (mRet (mC (.bl false)))
  mNx) mNx)
  (mSeq (mIf (mAnd (mTru (mF false (dIsi "tuple") (mCons (mV 1) mNil))) (mNot (mTru (mF false (dIsi "tuple") (mCons (mV 0) mNil))))) (mSeq (mRet (mC (.bl false)))
  mNx) mNx)
  (mSeq (mIf (mT (mF false dNe (mCons (mF false dLen (mCons (mV 0) mNil)) (mCons (mF false dLen (mCons (mV 1) mNil)) mNil)))) (mSeq (mRet (mC (.bl false)))
  mNx) mNx)
  (mSeq (mRet (mF true dAll (mCons (c_law_same_0 rec) mNil)))
  mNx)))) mNx)
  (mSeq (mIf (mT (mF false dIsN (mCons (mV 1) (mCons (mC .non) mNil)))) (mSeq (mRet (mF false dIsN (mCons (mV 0) (mCons (mC .non) mNil))))
  mNx) mNx)
  (mSeq (mIf (mOr (mTru (mF false (dIsi "bool") (mCons (mV 1) mNil))) (mTru (mF false (dIsi "bool") (mCons (mV 0) mNil)))) (mSeq (mRet (mAndV (mF false (dIsi "bool") (mCons (mV 1) mNil)) (mAndV (mF false (dIsi "bool") (mCons (mV 0) mNil)) (mF false dEq (mCons (mV 0) (mCons (mV 1) mNil))))))
  mNx) mNx)
  (mSeq (mIf (mTru (mF false (dIsi "int") (mCons (mV 1) mNil))) (mSeq (mRet (mAndV (mF false (dIsi "int") (mCons (mV 0) mNil)) (mF false dEq (mCons (mV 0) (mCons (mV 1) mNil)))))
  mNx) mNx)
  (mSeq (mRet (mAndV (mF false (dIsi "str") (mCons (mV 0) mNil)) (mF false dEq (mCons (mV 0) (mCons (mV 1) mNil)))))
  mNx)))))
def g_law_same : Nat → List D → Option Ro
  | 0 => fun _ => none
  | n + 1 => runFn0 (m_law_same (g_law_same n)) N_law_same.length [0, 0]
theorem ok_law_same (T : Txt K mg) : ∀ n : Nat, FnOk P w K mg base CX0 (1 + n) T.f_law_same T.d_law_same ["found", "due"] (spOf K [0, 0] (g_law_same n))
  | 0 => fn_none rfl
  | n + 1 => by
    have IH := ok_law_same T n
    exact fn0 (N := N_law_same) (m := m_law_same (g_law_same n)) T.F_law_same sc_law_same rfl (by decide) fun cdv A outer s H E p hr hpin => by
      unfold m_law_same c_law_same_0
      refine rss_cons (rs_if (rt_tru (re_isi2 (TT := "list") (UU := "tuple") (by rfl) T.z_isinstance (re_v 1) (by rfl) T.z_list PyProof.Rows.boot_list (by rfl) T.z_tuple PyProof.Rows.boot_tuple)) ?_ ?_) ?_
      · refine rss_cons (rs_if (rw_and (rt_tru (re_isi (TT := "list") (by rfl) T.z_isinstance (re_v 1) (by rfl) T.z_list PyProof.Rows.boot_list)) (rw_and1 (rt_not (rt_tru (re_isi (TT := "list") (by rfl) T.z_isinstance (re_v 0) (by rfl) T.z_list PyProof.Rows.boot_list))))).rt ?_ ?_) ?_
        · refine rss_cons (rs_ret re_bl) ?_
          exact rss_nil
        · exact rss_nil
        refine rss_cons (rs_if (rw_and (rt_tru (re_isi (TT := "tuple") (by rfl) T.z_isinstance (re_v 1) (by rfl) T.z_tuple PyProof.Rows.boot_tuple)) (rw_and1 (rt_not (rt_tru (re_isi (TT := "tuple") (by rfl) T.z_isinstance (re_v 0) (by rfl) T.z_tuple PyProof.Rows.boot_tuple))))).rt ?_ ?_) ?_
        · refine rss_cons (rs_ret re_bl) ?_
          exact rss_nil
        · exact rss_nil
        refine rss_cons (rs_if (rt_cmp (op_neX hr.units) s_ne (re_cb call_len s_len (by rfl) T.z_len PySem.boot_len (ra_cons (re_v 0) ra_nil)) (re_cb call_len s_len (by rfl) T.z_len PySem.boot_len (ra_cons (re_v 1) ra_nil))) ?_ ?_) ?_
        · refine rss_cons (rs_ret re_bl) ?_
          exact rss_nil
        · exact rss_nil
        refine rss_cons (rs_ret (re_cb (cr_all rfl) s_all (by rfl) T.z_all (by decide +kernel) (ra_cons (re_lc (own := [("one", 2), ("other", 3)]) (fun _ => 0) rfl sc_law_same.nd (ri_zip (by rfl) T.z_zip (ra_cons (re_v 0) (ra_cons (re_v 1) ra_nil))) (blkOk_by (own := [("one", 2), ("other", 3)]) (N := N_law_same) (sc := defScope s_law_same) (by decide +kernel)) (npl hpin (by decide)) (fun _ _ _ _ _ => (rg_tup rfl (rgs_cons (rg_of (pg_name (i := 2) sc_law_same.nd rfl (by first | exact Or.inl rfl | exact Or.inr rfl)) (np hpin (by decide))) (rgs_cons (rg_of (pg_name (i := 3) sc_law_same.nd rfl (by first | exact Or.inl rfl | exact Or.inr rfl)) (np hpin (by decide))) rgs_nil)))) (fun _ _ _ _ _ => rts_nil) (fun _ _ _ _ _ => (re_call IH (hr.mono (Nat.le_refl _)) (by rfl) T.g_law_same T.F_law_same.kp T.b_law_same (fun _ => passes0) (ra_cons (re_v 2) (ra_cons (re_v 3) ra_nil))))) ra_nil))) ?_
        exact rss_nil
      · exact rss_nil
      refine rss_cons (rs_if (rt_cmp op_isN s_isN (re_v 1) re_non) ?_ ?_) ?_
      · refine rss_cons (rs_ret (re_cmp op_isN s_isN (re_v 0) re_non)) ?_
        exact rss_nil
      · exact rss_nil
      refine rss_cons (rs_if (rw_or (rt_tru (re_isi (TT := "bool") (by rfl) T.z_isinstance (re_v 1) (by rfl) T.z_bool PyProof.Rows.boot_bool)) (rw_or1 (rt_tru (re_isi (TT := "bool") (by rfl) T.z_isinstance (re_v 0) (by rfl) T.z_bool PyProof.Rows.boot_bool)))).rt ?_ ?_) ?_
      · refine rss_cons (rs_ret (re_andV (re_isi (TT := "bool") (by rfl) T.z_isinstance (re_v 1) (by rfl) T.z_bool PyProof.Rows.boot_bool) (re_andV (re_isi (TT := "bool") (by rfl) T.z_isinstance (re_v 0) (by rfl) T.z_bool PyProof.Rows.boot_bool) (re_last (re_cmp (op_eqX hr.units) s_eq (re_v 0) (re_v 1)))))) ?_
        exact rss_nil
      · exact rss_nil
      refine rss_cons (rs_if (rt_tru (re_isi (TT := "int") (by rfl) T.z_isinstance (re_v 1) (by rfl) T.z_int PyProof.Rows.boot_int)) ?_ ?_) ?_
      · refine rss_cons (rs_ret (re_andV (re_isi (TT := "int") (by rfl) T.z_isinstance (re_v 0) (by rfl) T.z_int PyProof.Rows.boot_int) (re_last (re_cmp (op_eqX hr.units) s_eq (re_v 0) (re_v 1))))) ?_
        exact rss_nil
      · exact rss_nil
      refine rss_cons (rs_ret (re_andV (re_isi (TT := "str") (by rfl) T.z_isinstance (re_v 0) (by rfl) T.z_str PyProof.Rows.boot_str) (re_last (re_cmp (op_eqX hr.units) s_eq (re_v 0) (re_v 1))))) ?_
      exact rss_nil

def c_law_thing_0 : M Op :=
  (mLc [9] (fun _ => 0) (iR (mCons (mCall1 0 1 g_law_draw (mCons (mV 1) (mCons (mF true dAdd (mCons (mV 3) (mCons (mC (.int 1)) mNil))) mNil))) mNil)) (gN 9) mYes (mF true dSub (mCons (mCall1 0 1 g_law_draw (mCons (mV 1) (mCons (mV 4) mNil))) (mCons (mF true dDiv (mCons (mV 4) (mCons (mC (.int 2)) mNil))) mNil))))
def c_law_thing_1 : M Op :=
  (mLc [10] (fun _ => 0) (iL (mSl (mV 0) (mPt (mC (.int 2))) (mPt (mF true dAdd (mCons (mC (.int 2)) (mCons (mV 3) mNil)))))) (gN 10) mYes (mF true dSub (mCons (mF true dMod (mCons (mF true dInt (mCons (mV 10) mNil)) (mCons (mV 4) mNil))) (mCons (mF true dDiv (mCons (mV 4) (mCons (mC (.int 2)) mNil))) mNil))))
def c_law_thing_2 : M Op :=
  (mLc [6] (fun _ => 0) (iL (mV 5)) (gN 6) mYes (mTup (mCons (mF true dAbs (mCons (mV 6) mNil)) (mCons (mCall1 0 1 g_law_draw (mCons (mV 1) (mCons (mF true dAdd (mCons (mF true dDiv (mCons (mV 4) (mCons (mC (.int 2)) mNil))) (mCons (mC (.int 1)) mNil))) mNil))) mNil))))
def b_law_thing_0 : M Fl :=
  (mSeq (mIf (mOr (mT (mF false dEq (mCons (mV 7) (mCons (mLst mNil) mNil)))) (mT (mF false dEq (mCons (mCall1 0 1 g_law_draw (mCons (mV 1) (mCons (mC (.int 3)) mNil))) (mCons (mC (.int 1)) mNil))))) (mSeq (mExpr (mApp 7 1 (mNew 0)))
  mNx) mNx)
  (mSeq (mAl 7 8 (-1) (argV 6)) mNx))
def l_law_thing_0 : M Fl :=
  (mFor (iL (mV 5)) (gN 6) b_law_thing_0)
def m_law_thing : M Fl :=
  (mSeq (mAsg 4 (mF true dItem (mCons (mLst (mCons (mC (.int 3)) (mCons (mC (.int 12)) (mCons (mC (.int 1003)) (mCons (mF true dSub (mCons (mF true dMul (mCons (mC (.int 2)) (mCons (mF true dPow (mCons (mC (.int 10)) (mCons (mC (.int 30)) mNil))) mNil))) (mCons (mC (.int 1)) mNil))) mNil))))) (mCons (mCall1 0 1 g_law_draw (mCons (mV 1) (mCons (mC (.int 4)) mNil))) mNil))))
  (mSeq (mAsg 5 c_law_thing_0)
  (mSeq (mIf (mAnd (mT (mF true dGt (mCons (mF false dLen (mCons (mV 0) mNil)) (mCons (mC (.int 2)) mNil)))) (mT (mF false dEq (mCons (mCall1 0 1 g_law_draw (mCons (mV 1) (mCons (mC (.int 3)) mNil))) (mCons (mC (.int 0)) mNil))))) (mSeq (mAsg 5 c_law_thing_1)
  mNx) mNx)
  (mSeq (mIf (mT (mF false dEq (mCons (mV 2) (mCons (mC (.int 0)) mNil)))) (mSeq (mRet (mV 5))
  mNx) mNx)
  (mSeq (mIf (mT (mF false dEq (mCons (mV 2) (mCons (mC (.int 2)) mNil)))) (mSeq (mRet c_law_thing_2)
  mNx) mNx)
  (mSeq (mAsg 7 (mNew 1))
  (mSeq l_law_thing_0
  (mSeq (mRet (mV 7))
  mNx))))))))
def g_law_thing : List D → Option Ro := runFn0 m_law_thing N_law_thing.length [0, 1, 0, 0]
theorem ok_law_thing (T : Txt K mg) : FnOk P w K mg base CX0 2 T.f_law_thing T.d_law_thing ["script", "source", "kind", "limit"] (spOf K [0, 1, 0, 0] g_law_thing) :=
    fn0 (N := N_law_thing) (m := m_law_thing) T.F_law_thing sc_law_thing rfl (by decide) fun cdv A outer s H E p hr hpin => by
      unfold m_law_thing l_law_thing_0 b_law_thing_0 c_law_thing_2 c_law_thing_1 c_law_thing_0
      refine rss_cons (rs_asg (i := 4) sc_law_thing.nd rfl (by first | exact Or.inl rfl | exact Or.inr rfl) (re_ix (re_lst (ra_cons re_int (ra_cons re_int (ra_cons re_int (ra_cons (re_op op_sub s_sub (re_op op_mulD s_mul re_int (re_op op_pow s_pow re_int re_int)) re_int) ra_nil))))) (re_call1 0 1 (ok_law_draw T) (hr.mono (by decide)) (by rfl) T.g_law_draw T.F_law_draw.kp T.b_law_draw (fun _ => passes0) (ra_cons (re_v 1) (ra_cons re_int ra_nil)))) (np hpin (by decide))) ?_
      refine rss_cons (rs_lc (i := 5) (own := [("place", 9)]) (fun _ => 0) rfl sc_law_thing.nd rfl rfl (sw_true rfl rfl rfl (by decide +kernel)) (ri_range1 (by rfl) T.z_range (ra_cons (re_call1 0 1 (ok_law_draw T) (hr.mono (by decide)) (by rfl) T.g_law_draw T.F_law_draw.kp T.b_law_draw (fun _ => passes0) (ra_cons (re_v 1) (ra_cons (re_op op_addD s_add (re_v 3) re_int) ra_nil))) ra_nil)) (blkOk_by (own := [("place", 9)]) (N := N_law_thing) (sc := defScope s_law_thing) (by decide +kernel)) (npl hpin (by decide)) (np hpin (by decide)) (fun _ _ _ _ _ => (rg_of (pg_name (i := 9) sc_law_thing.nd rfl (by first | exact Or.inl rfl | exact Or.inr rfl)) (np hpin (by decide)))) (fun _ _ _ _ _ => rts_nil) (fun _ _ _ _ _ => (re_op op_sub s_sub (re_call1 0 1 (ok_law_draw T) (hr.mono (by decide)) (by rfl) T.g_law_draw T.F_law_draw.kp T.b_law_draw (fun _ => passes0) (ra_cons (re_v 1) (ra_cons (re_v 4) ra_nil))) (re_op op_fdivW s_div (re_v 4) re_int)))) ?_
      refine rss_cons (rs_if (rw_and (rt_cmp op_gtD s_cmp (re_cb call_len s_len (by rfl) T.z_len PySem.boot_len (ra_cons (re_v 0) ra_nil)) re_int) (rw_and1 (rt_cmp (op_eqX hr.units) s_eq (re_call1 0 1 (ok_law_draw T) (hr.mono (by decide)) (by rfl) T.g_law_draw T.F_law_draw.kp T.b_law_draw (fun _ => passes0) (ra_cons (re_v 1) (ra_cons re_int ra_nil))) re_int))).rt ?_ ?_) ?_
      · refine rss_cons (rs_lc (i := 5) (own := [("cell", 10)]) (fun _ => 0) rfl sc_law_thing.nd rfl rfl (sw_true rfl rfl rfl (by decide +kernel)) (ri_list (re_sl (re_v 0) (ro_some re_int) (ro_some (re_op op_addD s_add re_int (re_v 3))))) (blkOk_by (own := [("cell", 10)]) (N := N_law_thing) (sc := defScope s_law_thing) (by decide +kernel)) (npl hpin (by decide)) (np hpin (by decide)) (fun _ _ _ _ _ => (rg_of (pg_name (i := 10) sc_law_thing.nd rfl (by first | exact Or.inl rfl | exact Or.inr rfl)) (np hpin (by decide)))) (fun _ _ _ _ _ => rts_nil) (fun _ _ _ _ _ => (re_op op_sub s_sub (re_op op_mod s_mod (re_ct call_intD s_int (by rfl) T.z_int PyProof.Rows.boot_int (ra_cons (re_v 10) ra_nil)) (re_v 4)) (re_op op_fdivW s_div (re_v 4) re_int)))) ?_
        exact rss_nil
      · exact rss_nil
      refine rss_cons (rs_if (rt_cmp (op_eqX hr.units) s_eq (re_v 2) re_int) ?_ ?_) ?_
      · refine rss_cons (rs_ret (re_v 5)) ?_
        exact rss_nil
      · exact rss_nil
      refine rss_cons (rs_if (rt_cmp (op_eqX hr.units) s_eq (re_v 2) re_int) ?_ ?_) ?_
      · refine rss_cons (rs_ret (re_lc (own := [("card", 6)]) (fun _ => 0) rfl sc_law_thing.nd (ri_list (re_v 5)) (blkOk_by (own := [("card", 6)]) (N := N_law_thing) (sc := defScope s_law_thing) (by decide +kernel)) (npl hpin (by decide)) (fun _ _ _ _ _ => (rg_of (pg_name (i := 6) sc_law_thing.nd rfl (by first | exact Or.inl rfl | exact Or.inr rfl)) (np hpin (by decide)))) (fun _ _ _ _ _ => rts_nil) (fun _ _ _ _ _ => (re_tup (ra_cons (re_cb call_abs s_abs (by rfl) T.z_abs PyProof.Rows.boot_abs (ra_cons (re_v 6) ra_nil)) (ra_cons (re_call1 0 1 (ok_law_draw T) (hr.mono (by decide)) (by rfl) T.g_law_draw T.F_law_draw.kp T.b_law_draw (fun _ => passes0) (ra_cons (re_v 1) (ra_cons (re_op op_addD s_add (re_op op_fdivW s_div (re_v 4) re_int) re_int) ra_nil))) ra_nil)))))) ?_
        exact rss_nil
      · exact rss_nil
      refine rss_cons (rs_asg (i := 7) sc_law_thing.nd rfl (by first | exact Or.inl rfl | exact Or.inr rfl) (re_new 1) (np hpin (by decide))) ?_
      refine rss_cons (rs_for PassesOwn.never rfl (ri_list (re_v 5)) (rg_of (pg_name (i := 6) sc_law_thing.nd rfl (by first | exact Or.inl rfl | exact Or.inr rfl)) (np hpin (by decide))) ?_) ?_
      · refine rss_cons (rs_if (rw_or (rt_cmp (op_eqX hr.units) s_eq (re_v 7) (re_lst ra_nil)) (rw_or1 (rt_cmp (op_eqX hr.units) s_eq (re_call1 0 1 (ok_law_draw T) (hr.mono (by decide)) (by rfl) T.g_law_draw T.F_law_draw.kp T.b_law_draw (fun _ => passes0) (ra_cons (re_v 1) (ra_cons re_int ra_nil))) re_int))).rt ?_ ?_) ?_
        · refine rss_cons (rs_expr (re_app 1 (j := 7) (re_new 0))) ?_
          exact rss_nil
        · exact rss_nil
        refine (rss_al (g := 7) (i := 8) sc_law_thing.nd rfl (by first | exact Or.inl rfl | exact Or.inr rfl) (pe_un un_neg pe_int) idx_neg (pv 6) (arg_v 6 (by decide)) (np hpin (by decide)) ?_)
        exact rss_nil
      refine rss_cons (rs_ret (re_v 7)) ?_
      exact rss_nil

def m_law_text : M Fl :=
  (mSeq (mIf (mT (mF false dEq (mCons (mV 0) (mCons (mC (.int 0)) mNil)))) (mSeq (mRet (mCall g_show_row (mCons (mV 1) mNil)))
  mNx) mNx)
  (mSeq (mIf (mT (mF false dEq (mCons (mV 0) (mCons (mC (.int 1)) mNil)))) (mSeq (mRet (mCall g_show_piles (mCons (mV 1) mNil)))
  mNx) mNx)
  (mSeq (mRet (mCall g_show_way (mCons (mV 1) mNil)))
  mNx)))
def g_law_text : List D → Option Ro := runFn0 m_law_text N_law_text.length [0, 0]
theorem ok_law_text (T : Txt K mg) : FnOk P w K mg base CX0 3 T.f_law_text T.d_law_text ["kind", "thing"] (spOf K [0, 0] g_law_text) :=
    fn0 (N := N_law_text) (m := m_law_text) T.F_law_text sc_law_text rfl (by decide) fun cdv A outer s H E p hr hpin => by
      unfold m_law_text
      refine rss_cons (rs_if (rt_cmp (op_eqX hr.units) s_eq (re_v 0) re_int) ?_ ?_) ?_
      · refine rss_cons (rs_ret (re_call (ok_show_row T) (hr.mono (by decide)) (by rfl) T.g_show_row T.F_show_row.kp T.b_show_row (fun _ => passes0) (ra_cons (re_v 1) ra_nil))) ?_
        exact rss_nil
      · exact rss_nil
      refine rss_cons (rs_if (rt_cmp (op_eqX hr.units) s_eq (re_v 0) re_int) ?_ ?_) ?_
      · refine rss_cons (rs_ret (re_call (ok_show_piles T) (hr.mono (by decide)) (by rfl) T.g_show_piles T.F_show_piles.kp T.b_show_piles (fun _ => passes0) (ra_cons (re_v 1) ra_nil))) ?_
        exact rss_nil
      · exact rss_nil
      refine rss_cons (rs_ret (re_call (ok_show_way T) (hr.mono (by decide)) (by rfl) T.g_show_way T.F_show_way.kp T.b_show_way (fun _ => passes0) (ra_cons (re_v 1) ra_nil))) ?_
      exact rss_nil

def m_law_back : M Fl :=
  (mSeq (mIf (mT (mF false dEq (mCons (mV 0) (mCons (mC (.int 0)) mNil)))) (mSeq (mRet (mCall g_read_row (mPerm pId (mCons (mV 1) mNil))))
  mNx) mNx)
  (mSeq (mIf (mT (mF false dEq (mCons (mV 0) (mCons (mC (.int 1)) mNil)))) (mSeq (mRet (mCall g_read_piles (mPerm pId (mCons (mV 1) mNil))))
  mNx) mNx)
  (mSeq (mRet (mCall g_read_way (mPerm pId (mCons (mV 1) mNil))))
  mNx)))
def g_law_back : List D → Option Ro := runFn0 m_law_back N_law_back.length [0, 0]
theorem ok_law_back (T : Txt K mg) : FnOk P w K mg base CX0 5 T.f_law_back T.d_law_back ["kind", "text0"] (spOf K [0, 0] g_law_back) :=
    fn0 (N := N_law_back) (m := m_law_back) T.F_law_back sc_law_back rfl (by decide) fun cdv A outer s H E p hr hpin => by
      unfold m_law_back
      refine rss_cons (rs_if (rt_cmp (op_eqX hr.units) s_eq (re_v 0) re_int) ?_ ?_) ?_
      · refine rss_cons (rs_ret (re_callK pId pId_len pId_rel (ok_read_row T) (hr.mono (by decide)) (by rfl) T.g_read_row T.F_read_row.kp T.k_read_row_text (fun _ => passes0) (rk_cons (re_v 1) rk_nil))) ?_
        exact rss_nil
      · exact rss_nil
      refine rss_cons (rs_if (rt_cmp (op_eqX hr.units) s_eq (re_v 0) re_int) ?_ ?_) ?_
      · refine rss_cons (rs_ret (re_callK pId pId_len pId_rel (ok_read_piles T) (hr.mono (by decide)) (by rfl) T.g_read_piles T.F_read_piles.kp T.k_read_piles_text (fun _ => passes0) (rk_cons (re_v 1) rk_nil))) ?_
        exact rss_nil
      · exact rss_nil
      refine rss_cons (rs_ret (re_callK pId pId_len pId_rel (ok_read_way T) (hr.mono (by decide)) (by rfl) T.g_read_way T.F_read_way.kp T.k_read_way_text (fun _ => passes0) (rk_cons (re_v 1) rk_nil))) ?_
      exact rss_nil

def c_law_0 : M Op :=
  (mLc [10] (fun _ => 0) (iL (mV 4)) (gN 10) mYes (mIfE (mT (mF false dEq (mCons (mV 1) (mCons (mC (.int 1)) mNil)))) (mF true dList (mCons (mV 10) mNil)) (mV 10)))
def b_law_0 : M Fl :=
  (mSeq (mAsg 2 (mCall g_law_source (mCons (mV 0) (mCons (mV 1) mNil))))
  (mSeq (mAsg 3 (mCall1 0 1 g_law_draw (mCons (mV 2) (mCons (mC (.int 3)) mNil))))
  (mSeq (mAsg 4 (mCall1 1 1 g_law_thing (mCons (mV 0) (mCons (mV 2) (mCons (mV 1) (mCons (mF true dItem (mCons (mLst (mCons (mC (.int 20)) (mCons (mC (.int 20)) (mCons (mC (.int 20)) (mCons (mC (.int 60)) mNil))))) (mCons (mCall1 0 1 g_law_draw (mCons (mV 2) (mCons (mC (.int 4)) mNil))) mNil))) mNil))))))
  (mSeq (mAsg 5 c_law_0)
  (mSeq (mIf (mT (mF false dEq (mCons (mV 3) (mCons (mC (.int 1)) mNil)))) (mSeq (mAsg 5 (mCallT 1 1 g_law_thing [.sl 0] [.sl 1, .val (.int 20) 0] (mCall g_law_source (mCons (mV 0) (mCons (mF true dAdd (mCons (mV 1) (mCons (mC (.int 3)) mNil))) mNil)))))
  mNx) mNx)
  (mSeq (mIf (mT (mF false dEq (mCons (mV 3) (mCons (mC (.int 2)) mNil)))) (mSeq (mAsg 5 (mSl (mV 5) mPn (mPt (mF true dNeg (mCons (mC (.int 1)) mNil)))))
  mNx) mNx)
  (mSeq (mAsg 6 (mCall g_law_text (mCons (mV 1) (mCons (mV 4) mNil))))
  (mSeq (mAsg 7 (mCall g_law_text (mCons (mV 1) (mCons (mV 5) mNil))))
  (mSeq (mIf (mOr (mNot (mTru (mF false (dIsi "str") (mCons (mV 6) mNil)))) (mNot (mTru (mF false (dIsi "str") (mCons (mV 7) mNil))))) (mSeq (mRet (mC (.bl false)))
  mNx) mNx)
  (mSeq (mIf (mT (mF false dNe (mCons (mF false dEq (mCons (mV 6) (mCons (mV 7) mNil))) (mCons (mF false dEq (mCons (mV 4) (mCons (mV 5) mNil))) mNil)))) (mSeq (mRet (mC (.bl false)))
  mNx) mNx)
  (mSeq (mAsg 8 (mCall g_law_back (mCons (mV 1) (mCons (mV 6) mNil))))
  (mSeq (mIf (mOr (mNot (mTru (mCall (g_law_same 6) (mCons (mV 8) (mCons (mV 4) mNil))))) (mNot (mTru (mCall (g_law_same 6) (mCons (mCall g_law_back (mCons (mV 1) (mCons (mV 7) mNil))) (mCons (mV 5) mNil)))))) (mSeq (mRet (mC (.bl false)))
  mNx) mNx)
  (mSeq (mIf (mAnd (mT (mF false dEq (mCons (mV 1) (mCons (mC (.int 1)) mNil)))) (mT (mF false dNe (mCons (mV 8) (mCons (mLst mNil) mNil))))) (mSeq (mAl 8 9 0 (fun _ => some (D.int 4))) (mLw 8 (mSeq (mIf (mNot (mTru (mCall (g_law_same 6) (mCons (mSl (mV 8) (mPt (mC (.int 1))) mPn) (mCons (mSl (mV 4) (mPt (mC (.int 1))) mPn) mNil))))) (mSeq (mRet (mC (.bl false)))
  mNx) mNx)
  mNx))) mNx)
  (mLw 8 (mSeq (mExpr (mMut 8 fAppend (mCons (mC .non) mNil)))
  (mSeq (mIf (mNot (mTru (mCall (g_law_same 6) (mCons (mCall g_law_back (mCons (mV 1) (mCons (mV 6) mNil))) (mCons (mV 4) mNil))))) (mSeq (mRet (mC (.bl false)))
  mNx) mNx)
  mNx))))))))))))))))
def l_law_0 : M Fl :=
  (mFor (iR (mCons (mC (.int 3)) mNil)) (gN 1) b_law_0)
def m_law : M Fl :=
  (mSeq l_law_0
  (mSeq (mRet (mC (.bl true)))
  mNx))
def g_law : List D → Option Ro := runFn0 m_law N_law.length [0]
theorem ok_law (T : Txt K mg) : FnOk P w K mg base CX0 8 T.f_law T.d_law ["script"] (spOf K [0] g_law) :=
    fn0 (N := N_law) (m := m_law) T.F_law sc_law rfl (by decide) fun cdv A outer s H E p hr hpin => by
      unfold m_law l_law_0 b_law_0 c_law_0
      refine rss_cons (rs_for PassesOwn.never rfl (ri_range1 (by rfl) T.z_range (ra_cons re_int ra_nil)) (rg_of (pg_name (i := 1) sc_law.nd rfl (by first | exact Or.inl rfl | exact Or.inr rfl)) (np hpin (by decide))) ?_) ?_
      · refine rss_cons (rs_asg (i := 2) sc_law.nd rfl (by first | exact Or.inl rfl | exact Or.inr rfl) (re_call (ok_law_source T) (hr.mono (by decide)) (by rfl) T.g_law_source T.F_law_source.kp T.b_law_source (fun _ => passes0) (ra_cons (re_v 0) (ra_cons (re_v 1) ra_nil))) (np hpin (by decide))) ?_
        refine rss_cons (rs_asg (i := 3) sc_law.nd rfl (by first | exact Or.inl rfl | exact Or.inr rfl) (re_call1 0 1 (ok_law_draw T) (hr.mono (by decide)) (by rfl) T.g_law_draw T.F_law_draw.kp T.b_law_draw (fun _ => passes0) (ra_cons (re_v 2) (ra_cons re_int ra_nil))) (np hpin (by decide))) ?_
        refine rss_cons (rs_asg (i := 4) sc_law.nd rfl (by first | exact Or.inl rfl | exact Or.inr rfl) (re_call1 1 1 (ok_law_thing T) (hr.mono (by decide)) (by rfl) T.g_law_thing T.F_law_thing.kp T.b_law_thing (fun _ => passes0) (ra_cons (re_v 0) (ra_cons (re_v 2) (ra_cons (re_v 1) (ra_cons (re_ix (re_lst (ra_cons re_int (ra_cons re_int (ra_cons re_int (ra_cons re_int ra_nil))))) (re_call1 0 1 (ok_law_draw T) (hr.mono (by decide)) (by rfl) T.g_law_draw T.F_law_draw.kp T.b_law_draw (fun _ => passes0) (ra_cons (re_v 2) (ra_cons re_int ra_nil)))) ra_nil))))) (np hpin (by decide))) ?_
        refine rss_cons (rs_lc (i := 5) (own := [("part", 10)]) (fun _ => 0) rfl sc_law.nd rfl rfl (sw_true rfl rfl rfl (by decide +kernel)) (ri_list (re_v 4)) (blkOk_by (own := [("part", 10)]) (N := N_law) (sc := defScope s_law) (by decide +kernel)) (npl hpin (by decide)) (np hpin (by decide)) (fun _ _ _ _ _ => (rg_of (pg_name (i := 10) sc_law.nd rfl (by first | exact Or.inl rfl | exact Or.inr rfl)) (np hpin (by decide)))) (fun _ _ _ _ _ => rts_nil) (fun _ _ _ _ _ => (re_if (rt_cmp (op_eqX hr.units) s_eq (re_v 1) re_int) (re_ct call_list_of s_list (by rfl) T.z_list PyProof.Rows.boot_list (ra_cons (re_v 10) ra_nil)) (re_v 10)))) ?_
        refine rss_cons (rs_if (rt_cmp (op_eqX hr.units) s_eq (re_v 3) re_int) ?_ ?_) ?_
        · refine rss_cons (rs_asg (i := 5) sc_law.nd rfl (by first | exact Or.inl rfl | exact Or.inr rfl) (re_callT 1 1 (ok_law_thing T) (hr.mono (by decide)) (by rfl) T.g_law_thing T.F_law_thing.kp T.b_law_thing (fun _ => passes0) (tm_cons (se_v 0) (tm_here (re_call (ok_law_source T) (hr.mono (by decide)) (by rfl) T.g_law_source T.F_law_source.kp T.b_law_source (fun _ => passes0) (ra_cons (re_v 0) (ra_cons (re_op op_addD s_add (re_v 1) re_int) ra_nil))) (sa_cons (se_v 1) (sa_cons se_int sa_nil))))) (np hpin (by decide))) ?_
          exact rss_nil
        · exact rss_nil
        refine rss_cons (rs_if (rt_cmp (op_eqX hr.units) s_eq (re_v 3) re_int) ?_ ?_) ?_
        · refine rss_cons (rs_asg (i := 5) sc_law.nd rfl (by first | exact Or.inl rfl | exact Or.inr rfl) (re_sl (re_v 5) ro_none (ro_some (re_un un_neg s_neg re_int))) (np hpin (by decide))) ?_
          exact rss_nil
        · exact rss_nil
        refine rss_cons (rs_asg (i := 6) sc_law.nd rfl (by first | exact Or.inl rfl | exact Or.inr rfl) (re_call (ok_law_text T) (hr.mono (by decide)) (by rfl) T.g_law_text T.F_law_text.kp T.b_law_text (fun _ => passes0) (ra_cons (re_v 1) (ra_cons (re_v 4) ra_nil))) (np hpin (by decide))) ?_
        refine rss_cons (rs_asg (i := 7) sc_law.nd rfl (by first | exact Or.inl rfl | exact Or.inr rfl) (re_call (ok_law_text T) (hr.mono (by decide)) (by rfl) T.g_law_text T.F_law_text.kp T.b_law_text (fun _ => passes0) (ra_cons (re_v 1) (ra_cons (re_v 5) ra_nil))) (np hpin (by decide))) ?_
        refine rss_cons (rs_if (rw_or (rt_not (rt_tru (re_isi (TT := "str") (by rfl) T.z_isinstance (re_v 6) (by rfl) T.z_str PyProof.Rows.boot_str))) (rw_or1 (rt_not (rt_tru (re_isi (TT := "str") (by rfl) T.z_isinstance (re_v 7) (by rfl) T.z_str PyProof.Rows.boot_str))))).rt ?_ ?_) ?_
        · refine rss_cons (rs_ret re_bl) ?_
          exact rss_nil
        · exact rss_nil
        refine rss_cons (rs_if (rt_cmp (op_neX hr.units) s_ne (re_cmp (op_eqX hr.units) s_eq (re_v 6) (re_v 7)) (re_cmp (op_eqX hr.units) s_eq (re_v 4) (re_v 5))) ?_ ?_) ?_
        · refine rss_cons (rs_ret re_bl) ?_
          exact rss_nil
        · exact rss_nil
        refine rss_cons (rs_asg (i := 8) sc_law.nd rfl (by first | exact Or.inl rfl | exact Or.inr rfl) (re_call (ok_law_back T) (hr.mono (by decide)) (by rfl) T.g_law_back T.F_law_back.kp T.b_law_back (fun _ => passes0) (ra_cons (re_v 1) (ra_cons (re_v 6) ra_nil))) (np hpin (by decide))) ?_
        refine rss_cons (rs_if (rw_or (rt_not (rt_tru (re_call (ok_law_same T 6) (hr.mono (by decide)) (by rfl) T.g_law_same T.F_law_same.kp T.b_law_same (fun _ => passes0) (ra_cons (re_v 8) (ra_cons (re_v 4) ra_nil))))) (rw_or1 (rt_not (rt_tru (re_call (ok_law_same T 6) (hr.mono (by decide)) (by rfl) T.g_law_same T.F_law_same.kp T.b_law_same (fun _ => passes0) (ra_cons (re_call (ok_law_back T) (hr.mono (by decide)) (by rfl) T.g_law_back T.F_law_back.kp T.b_law_back (fun _ => passes0) (ra_cons (re_v 1) (ra_cons (re_v 7) ra_nil))) (ra_cons (re_v 5) ra_nil))))))).rt ?_ ?_) ?_
        · refine rss_cons (rs_ret re_bl) ?_
          exact rss_nil
        · exact rss_nil
        refine rss_cons (rs_if (rw_and (rt_cmp (op_eqX hr.units) s_eq (re_v 1) re_int) (rw_and1 (rt_cmp (op_neX hr.units) s_ne (re_v 8) (re_lst ra_nil)))).rt ?_ ?_) ?_
        · refine (rss_al (g := 8) (i := 9) sc_law.nd rfl (by first | exact Or.inl rfl | exact Or.inr rfl) pe_int idx_int pe_int arg_int (np hpin (by decide)) ?_)
          refine rss_low (j := 8) ?_
          refine rss_cons (rs_if (rt_not (rt_tru (re_call (ok_law_same T 6) (hr.mono (by decide)) (by rfl) T.g_law_same T.F_law_same.kp T.b_law_same (fun _ => passes0) (ra_cons (re_sl (re_v 8) (ro_some re_int) ro_none) (ra_cons (re_sl (re_v 4) (ro_some re_int) ro_none) ra_nil))))) ?_ ?_) ?_
          · refine rss_cons (rs_ret re_bl) ?_
            exact rss_nil
          · exact rss_nil
          exact rss_nil
        · exact rss_nil
        refine rss_low (j := 8) ?_
        refine rss_cons (rs_expr (re_append (j := 8) re_non)) ?_
        refine rss_cons (rs_if (rt_not (rt_tru (re_call (ok_law_same T 6) (hr.mono (by decide)) (by rfl) T.g_law_same T.F_law_same.kp T.b_law_same (fun _ => passes0) (ra_cons (re_call (ok_law_back T) (hr.mono (by decide)) (by rfl) T.g_law_back T.F_law_back.kp T.b_law_back (fun _ => passes0) (ra_cons (re_v 1) (ra_cons (re_v 6) ra_nil))) (ra_cons (re_v 4) ra_nil))))) ?_ ?_) ?_
        · refine rss_cons (rs_ret re_bl) ?_
          exact rss_nil
        · exact rss_nil
        exact rss_nil
      refine rss_cons (rs_ret re_bl) ?_
      exact rss_nil

end
theorem all_mk {l : PySem.W.OpenLaw} {w : World} {K : PySem.W.Frag} {h : Heap} {mg : Str → Option Value} {fa : Addr} (X : K.In h) (G : h.Ns mainGlobals mg) (hfa : mg "law" = some (.ref fa))
    {f0 : Addr} {od0 an0 : Option Addr} {sl0 : Array (Option Value)} {oc0 kV0 dc0 pm0 cd0 ct0 : Value}
    (a0 : PySem.W.nsIn K mainGlobals "is_number" = some (some (.ref f0))) (l0 : K.lookup f0 = some ⟨oc0, od0, .func (PySem.W.fnOf "is_number" "is_number" (defArgs s_is_number) (defBody s_is_number) (defScope s_is_number) .none kV0 dc0 pm0 an0 cd0 ct0), sl0⟩) (c0 : PySem.W.codeIn K cd0 "is_number" = true) (k0 : PySem.W.keepIn K (.ref f0) = true)
    {f1 : Addr} {od1 an1 : Option Addr} {sl1 : Array (Option Value)} {oc1 kV1 dc1 pm1 cd1 ct1 : Value}
    (a1 : PySem.W.nsIn K mainGlobals "is_card" = some (some (.ref f1))) (l1 : K.lookup f1 = some ⟨oc1, od1, .func (PySem.W.fnOf "is_card" "is_card" (defArgs s_is_card) (defBody s_is_card) (defScope s_is_card) .none kV1 dc1 pm1 an1 cd1 ct1), sl1⟩) (c1 : PySem.W.codeIn K cd1 "is_card" = true) (k1 : PySem.W.keepIn K (.ref f1) = true)
    {f2 : Addr} {od2 an2 : Option Addr} {sl2 : Array (Option Value)} {oc2 kV2 dc2 pm2 cd2 ct2 : Value}
    (a2 : PySem.W.nsIn K mainGlobals "cards_in" = some (some (.ref f2))) (l2 : K.lookup f2 = some ⟨oc2, od2, .func (PySem.W.fnOf "cards_in" "cards_in" (defArgs s_cards_in) (defBody s_cards_in) (defScope s_cards_in) .none kV2 dc2 pm2 an2 cd2 ct2), sl2⟩) (c2 : PySem.W.codeIn K cd2 "cards_in" = true) (k2 : PySem.W.keepIn K (.ref f2) = true)
    {f3 : Addr} {od3 an3 : Option Addr} {sl3 : Array (Option Value)} {oc3 kV3 dc3 pm3 cd3 ct3 : Value}
    (a3 : PySem.W.nsIn K mainGlobals "read_row" = some (some (.ref f3))) (l3 : K.lookup f3 = some ⟨oc3, od3, .func (PySem.W.fnOf "read_row" "read_row" (defArgs s_read_row) (defBody s_read_row) (defScope s_read_row) .none kV3 dc3 pm3 an3 cd3 ct3), sl3⟩) (c3 : PySem.W.codeIn K cd3 "read_row" = true) (k3 : PySem.W.keepIn K (.ref f3) = true)
    {f4 : Addr} {od4 an4 : Option Addr} {sl4 : Array (Option Value)} {oc4 kV4 dc4 pm4 cd4 ct4 : Value}
    (a4 : PySem.W.nsIn K mainGlobals "read_piles" = some (some (.ref f4))) (l4 : K.lookup f4 = some ⟨oc4, od4, .func (PySem.W.fnOf "read_piles" "read_piles" (defArgs s_read_piles) (defBody s_read_piles) (defScope s_read_piles) .none kV4 dc4 pm4 an4 cd4 ct4), sl4⟩) (c4 : PySem.W.codeIn K cd4 "read_piles" = true) (k4 : PySem.W.keepIn K (.ref f4) = true)
    {f5 : Addr} {od5 an5 : Option Addr} {sl5 : Array (Option Value)} {oc5 kV5 dc5 pm5 cd5 ct5 : Value}
    (a5 : PySem.W.nsIn K mainGlobals "read_way" = some (some (.ref f5))) (l5 : K.lookup f5 = some ⟨oc5, od5, .func (PySem.W.fnOf "read_way" "read_way" (defArgs s_read_way) (defBody s_read_way) (defScope s_read_way) .none kV5 dc5 pm5 an5 cd5 ct5), sl5⟩) (c5 : PySem.W.codeIn K cd5 "read_way" = true) (k5 : PySem.W.keepIn K (.ref f5) = true)
    {f6 : Addr} {od6 an6 : Option Addr} {sl6 : Array (Option Value)} {oc6 kV6 dc6 pm6 cd6 ct6 : Value}
    (a6 : PySem.W.nsIn K mainGlobals "show_row" = some (some (.ref f6))) (l6 : K.lookup f6 = some ⟨oc6, od6, .func (PySem.W.fnOf "show_row" "show_row" (defArgs s_show_row) (defBody s_show_row) (defScope s_show_row) .none kV6 dc6 pm6 an6 cd6 ct6), sl6⟩) (c6 : PySem.W.codeIn K cd6 "show_row" = true) (k6 : PySem.W.keepIn K (.ref f6) = true)
    {f7 : Addr} {od7 an7 : Option Addr} {sl7 : Array (Option Value)} {oc7 kV7 dc7 pm7 cd7 ct7 : Value}
    (a7 : PySem.W.nsIn K mainGlobals "show_piles" = some (some (.ref f7))) (l7 : K.lookup f7 = some ⟨oc7, od7, .func (PySem.W.fnOf "show_piles" "show_piles" (defArgs s_show_piles) (defBody s_show_piles) (defScope s_show_piles) .none kV7 dc7 pm7 an7 cd7 ct7), sl7⟩) (c7 : PySem.W.codeIn K cd7 "show_piles" = true) (k7 : PySem.W.keepIn K (.ref f7) = true)
    {f8 : Addr} {od8 an8 : Option Addr} {sl8 : Array (Option Value)} {oc8 kV8 dc8 pm8 cd8 ct8 : Value}
    (a8 : PySem.W.nsIn K mainGlobals "show_way" = some (some (.ref f8))) (l8 : K.lookup f8 = some ⟨oc8, od8, .func (PySem.W.fnOf "show_way" "show_way" (defArgs s_show_way) (defBody s_show_way) (defScope s_show_way) .none kV8 dc8 pm8 an8 cd8 ct8), sl8⟩) (c8 : PySem.W.codeIn K cd8 "show_way" = true) (k8 : PySem.W.keepIn K (.ref f8) = true)
    {f9 : Addr} {od9 an9 : Option Addr} {sl9 : Array (Option Value)} {oc9 kV9 dc9 pm9 cd9 ct9 : Value}
    (a9 : PySem.W.nsIn K mainGlobals "_law_cell_at" = some (some (.ref f9))) (l9 : K.lookup f9 = some ⟨oc9, od9, .func (PySem.W.fnOf "_law_cell_at" "_law_cell_at" (defArgs s_law_cell_at) (defBody s_law_cell_at) (defScope s_law_cell_at) .none kV9 dc9 pm9 an9 cd9 ct9), sl9⟩) (c9 : PySem.W.codeIn K cd9 "_law_cell_at" = true) (k9 : PySem.W.keepIn K (.ref f9) = true)
    {f10 : Addr} {od10 an10 : Option Addr} {sl10 : Array (Option Value)} {oc10 kV10 dc10 pm10 cd10 ct10 : Value}
    (a10 : PySem.W.nsIn K mainGlobals "_law_source" = some (some (.ref f10))) (l10 : K.lookup f10 = some ⟨oc10, od10, .func (PySem.W.fnOf "_law_source" "_law_source" (defArgs s_law_source) (defBody s_law_source) (defScope s_law_source) .none kV10 dc10 pm10 an10 cd10 ct10), sl10⟩) (c10 : PySem.W.codeIn K cd10 "_law_source" = true) (k10 : PySem.W.keepIn K (.ref f10) = true)
    {f11 : Addr} {od11 an11 : Option Addr} {sl11 : Array (Option Value)} {oc11 kV11 dc11 pm11 cd11 ct11 : Value}
    (a11 : PySem.W.nsIn K mainGlobals "_law_draw" = some (some (.ref f11))) (l11 : K.lookup f11 = some ⟨oc11, od11, .func (PySem.W.fnOf "_law_draw" "_law_draw" (defArgs s_law_draw) (defBody s_law_draw) (defScope s_law_draw) .none kV11 dc11 pm11 an11 cd11 ct11), sl11⟩) (c11 : PySem.W.codeIn K cd11 "_law_draw" = true) (k11 : PySem.W.keepIn K (.ref f11) = true)
    {f12 : Addr} {od12 an12 : Option Addr} {sl12 : Array (Option Value)} {oc12 kV12 dc12 pm12 cd12 ct12 : Value}
    (a12 : PySem.W.nsIn K mainGlobals "_law_same" = some (some (.ref f12))) (l12 : K.lookup f12 = some ⟨oc12, od12, .func (PySem.W.fnOf "_law_same" "_law_same" (defArgs s_law_same) (defBody s_law_same) (defScope s_law_same) .none kV12 dc12 pm12 an12 cd12 ct12), sl12⟩) (c12 : PySem.W.codeIn K cd12 "_law_same" = true) (k12 : PySem.W.keepIn K (.ref f12) = true)
    {f13 : Addr} {od13 an13 : Option Addr} {sl13 : Array (Option Value)} {oc13 kV13 dc13 pm13 cd13 ct13 : Value}
    (a13 : PySem.W.nsIn K mainGlobals "_law_thing" = some (some (.ref f13))) (l13 : K.lookup f13 = some ⟨oc13, od13, .func (PySem.W.fnOf "_law_thing" "_law_thing" (defArgs s_law_thing) (defBody s_law_thing) (defScope s_law_thing) .none kV13 dc13 pm13 an13 cd13 ct13), sl13⟩) (c13 : PySem.W.codeIn K cd13 "_law_thing" = true) (k13 : PySem.W.keepIn K (.ref f13) = true)
    {f14 : Addr} {od14 an14 : Option Addr} {sl14 : Array (Option Value)} {oc14 kV14 dc14 pm14 cd14 ct14 : Value}
    (a14 : PySem.W.nsIn K mainGlobals "_law_text" = some (some (.ref f14))) (l14 : K.lookup f14 = some ⟨oc14, od14, .func (PySem.W.fnOf "_law_text" "_law_text" (defArgs s_law_text) (defBody s_law_text) (defScope s_law_text) .none kV14 dc14 pm14 an14 cd14 ct14), sl14⟩) (c14 : PySem.W.codeIn K cd14 "_law_text" = true) (k14 : PySem.W.keepIn K (.ref f14) = true)
    {f15 : Addr} {od15 an15 : Option Addr} {sl15 : Array (Option Value)} {oc15 kV15 dc15 pm15 cd15 ct15 : Value}
    (a15 : PySem.W.nsIn K mainGlobals "_law_back" = some (some (.ref f15))) (l15 : K.lookup f15 = some ⟨oc15, od15, .func (PySem.W.fnOf "_law_back" "_law_back" (defArgs s_law_back) (defBody s_law_back) (defScope s_law_back) .none kV15 dc15 pm15 an15 cd15 ct15), sl15⟩) (c15 : PySem.W.codeIn K cd15 "_law_back" = true) (k15 : PySem.W.keepIn K (.ref f15) = true)
    {f16 : Addr} {od16 an16 : Option Addr} {sl16 : Array (Option Value)} {oc16 kV16 dc16 pm16 cd16 ct16 : Value}
    (a16 : PySem.W.nsIn K mainGlobals "law" = some (some (.ref f16))) (l16 : K.lookup f16 = some ⟨oc16, od16, .func (PySem.W.fnOf "law" "law" (defArgs s_law) (defBody s_law) (defScope s_law) .none kV16 dc16 pm16 an16 cd16 ct16), sl16⟩) (c16 : PySem.W.codeIn K cd16 "law" = true) (k16 : PySem.W.keepIn K (.ref f16) = true)
    (z_abs : PySem.W.nsIn K mainGlobals "abs" = some none)
    (z_all : PySem.W.nsIn K mainGlobals "all" = some none)
    (z_bool : PySem.W.nsIn K mainGlobals "bool" = some none)
    (z_int : PySem.W.nsIn K mainGlobals "int" = some none)
    (z_isinstance : PySem.W.nsIn K mainGlobals "isinstance" = some none)
    (z_len : PySem.W.nsIn K mainGlobals "len" = some none)
    (z_list : PySem.W.nsIn K mainGlobals "list" = some none)
    (z_range : PySem.W.nsIn K mainGlobals "range" = some none)
    (z_str : PySem.W.nsIn K mainGlobals "str" = some none)
    (z_tuple : PySem.W.nsIn K mainGlobals "tuple" = some none)
    (z_zip : PySem.W.nsIn K mainGlobals "zip" = some none)
    {t_DIGITS : Tok} (c_DIGITS : PySem.W.nsIn K mainGlobals "DIGITS" = some (some (.str "0123456789" t_DIGITS)))
    {t_MOST_DIGITS : Tok} (c_MOST_DIGITS : PySem.W.nsIn K mainGlobals "MOST_DIGITS" = some (some (.int 60 t_MOST_DIGITS)))
    : ∃ fd : FuncData, (∀ (s : Shared) (v : Value), BindsTo s fd ⟨[v], []⟩ [("script", v)]) ∧ ∀ base : Heap, K.In base → base.Ns mainGlobals mg → FnOk l.prog w K mg base CX0 8 fa fd ["script"] (spOf K [0] g_law) := by
  have e := hfa.symm.trans (PySem.W.mg_of X G a16)
  cases e
  have F0 := fun_mk (st := s_is_number) l0 c0 k0
  have F1 := fun_mk (st := s_is_card) l1 c1 k1
  have F2 := fun_mk (st := s_cards_in) l2 c2 k2
  have F3 := fun_mk (st := s_read_row) l3 c3 k3
  have F4 := fun_mk (st := s_read_piles) l4 c4 k4
  have F5 := fun_mk (st := s_read_way) l5 c5 k5
  have F6 := fun_mk (st := s_show_row) l6 c6 k6
  have F7 := fun_mk (st := s_show_piles) l7 c7 k7
  have F8 := fun_mk (st := s_show_way) l8 c8 k8
  have F9 := fun_mk (st := s_law_cell_at) l9 c9 k9
  have F10 := fun_mk (st := s_law_source) l10 c10 k10
  have F11 := fun_mk (st := s_law_draw) l11 c11 k11
  have F12 := fun_mk (st := s_law_same) l12 c12 k12
  have F13 := fun_mk (st := s_law_thing) l13 c13 k13
  have F14 := fun_mk (st := s_law_text) l14 c14 k14
  have F15 := fun_mk (st := s_law_back) l15 c15 k15
  have F16 := fun_mk (st := s_law) l16 c16 k16
  exact ⟨_, fun s v => .of_eq rfl, fun base _ _ => ok_law (P := l.prog) {
    f_is_number := f0,
    d_is_number := _,
    F_is_number := F0,
    g_is_number := PySem.W.mg_of X G a0,
    b_is_number := F0.binds (fun _ _ _ _ _ _ us hl => match us, hl with | [_], _ => rfl),
    f_is_card := f1,
    d_is_card := _,
    F_is_card := F1,
    g_is_card := PySem.W.mg_of X G a1,
    b_is_card := F1.binds (fun _ _ _ _ _ _ us hl => match us, hl with | [_], _ => rfl),
    f_cards_in := f2,
    d_cards_in := _,
    F_cards_in := F2,
    g_cards_in := PySem.W.mg_of X G a2,
    b_cards_in := F2.binds (fun _ _ _ _ _ _ us hl => match us, hl with | [_, _], _ => rfl),
    f_read_row := f3,
    d_read_row := _,
    F_read_row := F3,
    g_read_row := PySem.W.mg_of X G a3,
    b_read_row := F3.binds (fun _ _ _ _ _ _ us hl => match us, hl with | [_], _ => rfl),
    k_read_row_text := kb_mk pId F3 pId_rel (fun _ _ _ _ _ _ us hl => match us, hl with | [_], _ => rfl),
    f_read_piles := f4,
    d_read_piles := _,
    F_read_piles := F4,
    g_read_piles := PySem.W.mg_of X G a4,
    b_read_piles := F4.binds (fun _ _ _ _ _ _ us hl => match us, hl with | [_], _ => rfl),
    k_read_piles_text := kb_mk pId F4 pId_rel (fun _ _ _ _ _ _ us hl => match us, hl with | [_], _ => rfl),
    f_read_way := f5,
    d_read_way := _,
    F_read_way := F5,
    g_read_way := PySem.W.mg_of X G a5,
    b_read_way := F5.binds (fun _ _ _ _ _ _ us hl => match us, hl with | [_], _ => rfl),
    k_read_way_text := kb_mk pId F5 pId_rel (fun _ _ _ _ _ _ us hl => match us, hl with | [_], _ => rfl),
    f_show_row := f6,
    d_show_row := _,
    F_show_row := F6,
    g_show_row := PySem.W.mg_of X G a6,
    b_show_row := F6.binds (fun _ _ _ _ _ _ us hl => match us, hl with | [_], _ => rfl),
    f_show_piles := f7,
    d_show_piles := _,
    F_show_piles := F7,
    g_show_piles := PySem.W.mg_of X G a7,
    b_show_piles := F7.binds (fun _ _ _ _ _ _ us hl => match us, hl with | [_], _ => rfl),
    f_show_way := f8,
    d_show_way := _,
    F_show_way := F8,
    g_show_way := PySem.W.mg_of X G a8,
    b_show_way := F8.binds (fun _ _ _ _ _ _ us hl => match us, hl with | [_], _ => rfl),
    f_law_cell_at := f9,
    d_law_cell_at := _,
    F_law_cell_at := F9,
    g_law_cell_at := PySem.W.mg_of X G a9,
    b_law_cell_at := F9.binds (fun _ _ _ _ _ _ us hl => match us, hl with | [_, _], _ => rfl),
    f_law_source := f10,
    d_law_source := _,
    F_law_source := F10,
    g_law_source := PySem.W.mg_of X G a10,
    b_law_source := F10.binds (fun _ _ _ _ _ _ us hl => match us, hl with | [_, _], _ => rfl),
    f_law_draw := f11,
    d_law_draw := _,
    F_law_draw := F11,
    g_law_draw := PySem.W.mg_of X G a11,
    b_law_draw := F11.binds (fun _ _ _ _ _ _ us hl => match us, hl with | [_, _], _ => rfl),
    f_law_same := f12,
    d_law_same := _,
    F_law_same := F12,
    g_law_same := PySem.W.mg_of X G a12,
    b_law_same := F12.binds (fun _ _ _ _ _ _ us hl => match us, hl with | [_, _], _ => rfl),
    f_law_thing := f13,
    d_law_thing := _,
    F_law_thing := F13,
    g_law_thing := PySem.W.mg_of X G a13,
    b_law_thing := F13.binds (fun _ _ _ _ _ _ us hl => match us, hl with | [_, _, _, _], _ => rfl),
    f_law_text := f14,
    d_law_text := _,
    F_law_text := F14,
    g_law_text := PySem.W.mg_of X G a14,
    b_law_text := F14.binds (fun _ _ _ _ _ _ us hl => match us, hl with | [_, _], _ => rfl),
    f_law_back := f15,
    d_law_back := _,
    F_law_back := F15,
    g_law_back := PySem.W.mg_of X G a15,
    b_law_back := F15.binds (fun _ _ _ _ _ _ us hl => match us, hl with | [_, _], _ => rfl),
    f_law := _,
    d_law := _,
    F_law := F16,
    g_law := PySem.W.mg_of X G a16,
    b_law := F16.binds (fun _ _ _ _ _ _ us hl => match us, hl with | [_], _ => rfl),
    z_abs := PySem.W.mg_none_of X G z_abs,
    z_all := PySem.W.mg_none_of X G z_all,
    z_bool := PySem.W.mg_none_of X G z_bool,
    z_int := PySem.W.mg_none_of X G z_int,
    z_isinstance := PySem.W.mg_none_of X G z_isinstance,
    z_len := PySem.W.mg_none_of X G z_len,
    z_list := PySem.W.mg_none_of X G z_list,
    z_range := PySem.W.mg_none_of X G z_range,
    z_str := PySem.W.mg_none_of X G z_str,
    z_tuple := PySem.W.mg_none_of X G z_tuple,
    z_zip := PySem.W.mg_none_of X G z_zip,
    t_DIGITS := t_DIGITS,
    c_DIGITS := PySem.W.mg_of X G c_DIGITS,
    t_MOST_DIGITS := t_MOST_DIGITS,
    c_MOST_DIGITS := PySem.W.mg_of X G c_MOST_DIGITS }⟩
end NS
namespace NS
open PySem PySem.Spec PyProof.Rows L2 Rf
theorem cell_eq (ns : List Int) (i : Nat) : g_law_cell_at [.kls (ns.map D.int), .int i] = some (.ret (.int (ns.getD i 0)) 0 [.kls (ns.map D.int), .int i]) := by
  unfold g_law_cell_at runFn0 runFn m_law_cell_at
  by_cases h : i < ns.length
  · simp [h, outs]
  · simp [h, outs]
def Src (n : Nat) (s : D) : Prop := ∃ a b c : Int, s = .lst [.int a, .int b, .int c] ∧ 0 ≤ c ∧ c ≤ n
theorem source_ok (ns : List Int) (i : Nat) (hi : i < 1000) : ∃ s, g_law_source [.kls (ns.map D.int), .int i] = some (.ret s 1 [.kls (ns.map D.int), .int i]) ∧ Src 20000 s := by
  unfold g_law_source runFn0 runFn m_law_source
  have h17 : fitB 60 17 = true := by decide
  by_cases h : (10 ^ 18 : Int) ≤ ns.getD i 0
  · refine ⟨.lst [.int (ns.getD i 0 - 10 ^ 18), .int 1, .int 0], ?_, _, _, _, rfl, by omega, by omega⟩
    simp only [List.getD_eq_getElem?_getD, Int.reducePow] at h
    simp [mCall, cell_eq, callEn, reg, sizeLine, outs, h]
  · refine ⟨.lst [.int (ns.getD i 0), .int 0, .int (17 * i)], ?_, _, _, _, rfl, by omega, by omega⟩
    simp only [List.getD_eq_getElem?_getD, Int.reducePow] at h
    simp [mCall, cell_eq, callEn, reg, sizeLine, outs, h, h17]
theorem draw_ok {n : Nat} {s : D} {many : Int} (h : Src n s) (hn : n < 100000) (h0 : 0 < many) (h1 : fitB 4000 many = true) : ∃ r s', g_law_draw [s, .int many] = some (.ret (.int r) 0 [s', .int many]) ∧ 0 ≤ r ∧ r < many ∧ Src (n + 1) s' := by
  obtain ⟨a, b, c, rfl, c0, c1⟩ := h
  have f1 : fitB 60 5003 = true := by decide
  have f2 : fitB 60 611953 = true := by decide
  unfold g_law_draw runFn0 runFn m_law_draw
  by_cases hb : b = 1
  · subst hb
    refine ⟨a % many, .lst [.int (a / many), .int 1, .int c], ?_, Int.emod_nonneg _ (by omega), Int.emod_lt_of_pos _ h0, _, _, _, rfl, by omega, by omega⟩
    simp [mSetI, fSetI, outs, h0, h1, ixN_pos]
  · have f3 : fitB 60 (611953 * (c + 1) + 15485863) = true := fit_of (10 ^ 12) (by omega) (by omega) (by decide)
    have f4 : fitB 100 (a % 1000000000000000009 + 5003 * (c + 1)) = true := fit_of (10 ^ 20) (by omega) (by omega) (by decide)
    have f5 := fit_mul (n := 4000) f4 f3 (by decide)
    have f6 : ∀ x : Int, fitB 4000 (x % 1000000000000000000000000000000000000007 + (c + 1)) = true := fun x => fit_of (10 ^ 50) (by omega) (by omega) (by decide)
    have f7 : ∀ x : Int, fitB 4000 (x % 1000000000000000000000000000000000000007 / 7 + 32452843) = true := fun x => fit_of (10 ^ 50) (by omega) (by omega) (by decide)
    have f8 : fitB 4000 7 = true := by decide
    have f9 : fitB 4000 1009 = true := by decide
    refine ⟨(?x : Int) % many, .lst [.int a, .int b, .int (c + 1)], ?_, Int.emod_nonneg _ (by omega), Int.emod_lt_of_pos _ h0, a, b, c + 1, rfl, by omega, by omega⟩
    rotate_left
    · simp [mSetI, fSetI, outs, h0, h1, ixN_pos, hb, f1, f2, f3, f5, f6, f7, f8, f9]
      rfl
end NS
namespace NS
open PySem PySem.Spec PyProof.Rows L2 Rf
/-! ### rows, piles, ways, as data and shown -/
def I0 : List Int → D := fun xs => .lst (xs.map D.int)
def P0 : List (List Int) → D := fun xss => .lst (xss.map I0)
def W1 : Int × Int → D := fun w => .tup [.int w.1, .int w.2]
def W2 : List (Int × Int) → D := fun ws => .lst (ws.map W1)
def Sm (xs : List Int) : Prop := xs.length ≤ 100 ∧ ∀ x ∈ xs, x.natAbs < 10 ^ 40
def SmP (xss : List (List Int)) : Prop := xss.length ≤ 100 ∧ ∀ xs ∈ xss, Sm xs
def SmW (ws : List (Int × Int)) : Prop := ws.length ≤ 100 ∧ ∀ w ∈ ws, (w.1.natAbs < 10 ^ 40 ∧ w.2.natAbs < 10 ^ 40) ∧ 0 ≤ w.1 ∧ 0 ≤ w.2
theorem fit40 {x : Int} (h : x.natAbs < 10 ^ 40) : fitB 1000 x = true := fit_of (10 ^ 40) (by omega) (by omega) (by decide)
theorem Sm.fit {xs : List Int} (h : Sm xs) : ∀ x ∈ xs, fitB 1000 x = true := fun x hx => fit40 (h.2 x hx)
def rowS (xs : List Int) : Str := if xs = [] then "-" else Str.join " " (xs.map sI)
def pilesS (xss : List (List Int)) : Str := if xss = [] then "-" else Str.join " | " (xss.map rowS)
def wS (w : Int × Int) : Str := sI w.1 ++ (Str.ofString ":" ++ sI w.2)
def wayS (ws : List (Int × Int)) : Str := if ws = [] then "-" else Str.join " " (ws.map wS)
theorem sI_40 {x : Int} (h : x.natAbs < 10 ^ 40) : (sI x).length ≤ 41 := sI_len (by decide) h
theorem row_join {xs : List Int} (h : Sm xs) : dJoin [.str " ", .lst ((xs.map sI).map D.str)] = some (.str (Str.join " " (xs.map sI)), 0) := join_ok 100 41 (fun y hy => by
    obtain ⟨x, hx, rfl⟩ := List.mem_map.mp hy
    exact sI_40 (h.2 x hx)) (by simpa using h.1) (by decide)
theorem row_len {xs : List Int} (h : Sm xs) : (rowS xs).length ≤ 4300 := by
  unfold rowS
  split
  · decide
  · have := join_len (a := " ") 100 41 (ys := xs.map sI) (fun y hy => by
      obtain ⟨x, hx, rfl⟩ := List.mem_map.mp hy
      exact sI_40 (h.2 x hx)) (by simpa using h.1)
    have h1 : (Str.ofString " ").length = 1 := by decide
    omega
theorem piles_join {xss : List (List Int)} (h : SmP xss) : dJoin [.str " | ", .lst ((xss.map rowS).map D.str)] = some (.str (Str.join " | " (xss.map rowS)), 0) := join_ok 100 4300 (fun y hy => by
    obtain ⟨x, hx, rfl⟩ := List.mem_map.mp hy
    exact row_len (h.2 x hx)) (by simpa using h.1) (by decide)
theorem piles_len {xss : List (List Int)} (h : SmP xss) : (pilesS xss).length ≤ 450000 := by
  unfold pilesS
  split
  · decide
  · have := join_len (a := " | ") 100 4300 (ys := xss.map rowS) (fun y hy => by
      obtain ⟨x, hx, rfl⟩ := List.mem_map.mp hy
      exact row_len (h.2 x hx)) (by simpa using h.1)
    have h1 : (Str.ofString " | ").length = 3 := by decide
    omega
theorem wS_len {w : Int × Int} (h : w.1.natAbs < 10 ^ 40 ∧ w.2.natAbs < 10 ^ 40) : (wS w).length ≤ 83 := by
  have h1 : (Str.ofString ":").length = 1 := by decide
  have h2 := sI_40 h.1
  have h3 := sI_40 h.2
  unfold wS
  simp only [app_len]
  omega
theorem way_join {ws : List (Int × Int)} (h : SmW ws) : dJoin [.str " ", .lst ((ws.map wS).map D.str)] = some (.str (Str.join " " (ws.map wS)), 0) := join_ok 100 83 (fun y hy => by
    obtain ⟨x, hx, rfl⟩ := List.mem_map.mp hy
    exact wS_len (h.2 x hx).1) (by simpa using h.1) (by decide)
/-! ### what shows them -/
theorem c_row {xs : List Int} (h : Sm xs) : c_show_row_0 [some (I0 xs, 0), none] = some (.ok (.val (.lst ((xs.map sI).map .str)) 1) [some (I0 xs, 0), none]) := by
  unfold c_show_row_0
  rw [mLc_of xs D.int (fun x => D.str (sI x)) (e0 := [some (I0 xs, 0), none]) (e1 := [some (I0 xs, 0), none]) (by simp [I0]) (by have := h.1; unfold sizeLine; omega) rfl fun x hx => ?_]
  · simp
  · simp [lcStep, h.fit x hx]
theorem row_eq {xs : List Int} (h : Sm xs) : g_show_row [I0 xs] = some (.ret (.str (rowS xs)) 0 [I0 xs]) := by
  refine run_ret (e := [some (I0 xs, 0), none]) ?_ rfl
  unfold m_show_row
  have hc := c_row h
  have hj := row_join h
  by_cases hx : xs = []
  · subst hx
    simp [I0, rowS]
  · have h1 : tru (I0 xs) = some true := by cases xs with | nil => exact absurd rfl hx | cons _ _ => rfl
    simp only [List.map_map] at hc hj
    simp [rowS, hx, hc, hj, h1]
theorem c_piles {xss : List (List Int)} (h : SmP xss) : c_show_piles_0 [some (P0 xss, 0), none] = some (.ok (.val (.lst ((xss.map rowS).map .str)) 1) [some (P0 xss, 0), none]) := by
  unfold c_show_piles_0
  rw [mLc_of xss I0 (fun x => D.str (rowS x)) (e0 := [some (P0 xss, 0), none]) (e1 := [some (P0 xss, 0), none]) (by simp [P0]) (by have := h.1; unfold sizeLine; omega) rfl fun x hx => ?_]
  · simp
  · simp [lcStep, row_eq (h.2 x hx)]
theorem piles_eq {xss : List (List Int)} (h : SmP xss) : g_show_piles [P0 xss] = some (.ret (.str (pilesS xss)) 0 [P0 xss]) := by
  refine run_ret (e := [some (P0 xss, 0), none]) ?_ rfl
  unfold m_show_piles
  have hc := c_piles h
  have hj := piles_join h
  by_cases hx : xss = []
  · subst hx
    simp [P0, pilesS]
  · have h1 : tru (P0 xss) = some true := by cases xss with | nil => exact absurd rfl hx | cons _ _ => rfl
    simp only [List.map_map] at hc hj
    simp [pilesS, hx, hc, hj, h1]
theorem c_way {ws : List (Int × Int)} (h : SmW ws) : c_show_way_0 [some (W2 ws, 0), none, none] = some (.ok (.val (.lst ((ws.map wS).map .str)) 1) [some (W2 ws, 0), none, none]) := by
  unfold c_show_way_0
  rw [mLc_of ws W1 (fun x => D.str (wS x)) (e0 := [some (W2 ws, 0), none, none]) (e1 := [some (W2 ws, 0), none, none]) (by simp [W2]) (by have := h.1; unfold sizeLine; omega) rfl fun x hx => ?_]
  · simp
  · have h0 := (h.2 x hx).1
    have h1 := sI_40 h0.1
    have h2 := wS_len h0
    simp only [wS, app_len] at h2
    have h3 : (sI x.1).length ≤ sizeLine := by unfold sizeLine; omega
    have h4 : (sI x.1).length + (Str.ofString ":").length ≤ sizeLine := by unfold sizeLine; omega
    have h5 : (sI x.1).length + ((Str.ofString ":").length + (sI x.2).length) ≤ sizeLine := by unfold sizeLine; omega
    simp [lcStep, W1, wS, mJs, fit40 h0.1, fit40 h0.2, h3, h4, h5, M.bind]
theorem way_eq {ws : List (Int × Int)} (h : SmW ws) : g_show_way [W2 ws] = some (.ret (.str (wayS ws)) 0 [W2 ws]) := by
  refine run_ret (e := [some (W2 ws, 0), none, none]) ?_ rfl
  unfold m_show_way
  have hc := c_way h
  have hj := way_join h
  by_cases hx : ws = []
  · subst hx
    simp [W2, wayS]
  · have h1 : tru (W2 ws) = some true := by cases ws with | nil => exact absurd rfl hx | cons _ _ => rfl
    simp only [List.map_map] at hc hj
    simp [wayS, hx, hc, hj, h1]
/-! ### the law's own showing -/
theorem lay_I0 (n : Nat) (xs : List Int) : lay (n + 1) (I0 xs) = true := by simp [I0]
theorem emp_I0 (xs : List Int) : eqD (I0 xs) (.lst []) = some (decide (xs = [])) := by
  unfold I0
  rw [eqD_lst (by simp) (by simp)]
  simp
theorem emp_P0 (xs : List (List Int)) : eqD (P0 xs) (.lst []) = some (decide (xs = [])) := by
  unfold P0
  rw [eqD_lst (layL_map _ _ _ fun x _ => lay_I0 _ x) (by simp)]
  simp
theorem emp_W2 (xs : List (Int × Int)) : eqD (W2 xs) (.lst []) = some (decide (xs = [])) := by
  unfold W2
  rw [eqD_lst (layL_map _ _ _ fun x _ => by simp [W1]) (by simp)]
  simp
end NS
namespace NS
open PySem PySem.Spec PyProof.Rows L2 Rf
/-! ### the things -/
abbrev Fr (sc s : D) (kd lim sp : Int) (x5 x6 x7 x8 : Option (D × Nat)) : En := [some (sc, 0), some (s, 1), some (.int kd, 0), some (.int lim, 0), some (.int sp, 0), x5, x6, x7, x8, none, none]
theorem src_reg {n : Nat} {s : D} (h : Src n s) : reg s 1 = true := by
  obtain ⟨a, b, c, rfl, _⟩ := h
  simp
theorem src_mono {n m : Nat} {s : D} (h : Src n s) (hm : n ≤ m) : Src m s := by
  obtain ⟨a, b, c, h1, h2, h3⟩ := h
  exact ⟨a, b, c, h1, h2, by omega⟩
def Bd (x : Int) : Prop := x.natAbs ≤ 10 ^ 31
theorem thing0 {n : Nat} {sc s : D} {kd lim sp : Int} (h : Src n s) (hn : n < 50000) (hl : 0 ≤ lim) (hl2 : lim ≤ 60) (h0 : 3 ≤ sp) (h1 : sp ≤ 2 * 10 ^ 30) :
    ∃ xs s', c_law_thing_0 (Fr sc s kd lim sp none none none none) = some (.ok (.val (I0 xs) 1) (Fr sc s' kd lim sp none none none none)) ∧ xs.length ≤ 60 ∧ (∀ x ∈ xs, Bd x) ∧ Src (n + 100) s' := by
  obtain ⟨r, s1, e1, r0, r1, hs1⟩ := draw_ok h (by omega) (many := lim + 1) (by omega) (fit_of 100 (by omega) (by omega) (by decide))
  have hf : fitB 4000 sp = true := fit_of (2 * 10 ^ 30) (by omega) (by omega) (by decide)
  have hf2 : fitB 4000 2 = true := by decide
  have hg := src_reg hs1
  obtain ⟨acc, e', h2, h3⟩ := mLc_inv (own := [9]) (ck := fun _ => 0) (mi := iR (mCons (mCall1 0 1 g_law_draw (mCons (mV 1) (mCons (mF true dAdd (mCons (mV 3) (mCons (mC (.int 1)) mNil))) mNil))) mNil)) (t := gN 9) (tt := mYes)
    (te := mF true dSub (mCons (mCall1 0 1 g_law_draw (mCons (mV 1) (mCons (mV 4) mNil))) (mCons (mF true dDiv (mCons (mV 4) (mCons (mC (.int 2)) mNil))) mNil)))
    (e := Fr sc s kd lim sp none none none none) (e0 := Fr sc s1 kd lim sp none none none none) (ds := rngD 0 r.toNat)
    (fun i acc e => ∃ xs s', acc = xs.map D.int ∧ xs.length = i ∧ (∀ x ∈ xs, Bd x) ∧ e = Fr sc s' kd lim sp none none none none ∧ Src (n + 1 + i) s')
    (by simp [e1, hg, show r < 4611686018427387904 from by omega, show -4611686018427387904 ≤ r from by omega]) (by rw [rngD_len]; unfold sizeLine; omega) ⟨[], s1, rfl, rfl, by simp, rfl, hs1⟩ (by
      intro i d acc e hd hI
      obtain ⟨hi, rfl⟩ := rngD_get hd
      obtain ⟨xs, s', rfl, rfl, hb, rfl, hs⟩ := hI
      obtain ⟨q, s2, e2, q0, q1, hs2⟩ := draw_ok hs (by omega) (many := sp) (by omega) hf
      have hg2 := src_reg hs2
      refine ⟨[.int (q - sp / 2)], Fr sc s2 kd lim sp none none none none, ?_, Nat.le_refl _, xs ++ [q - sp / 2], s2, by simp, by simp, ?_, rfl, by rw [Nat.add_assoc] at hs2; exact hs2⟩
      · simp [lcStep, e2, hg2, hf, hf2, M.bind]
      · intro x hx
        rcases List.mem_append.mp hx with hx | hx
        · exact hb x hx
        · simp at hx
          subst hx
          unfold Bd
          omega)
  obtain ⟨xs, s', rfl, hl3, hb, rfl, hs⟩ := h3
  rw [rngD_len] at hl3 hs
  refine ⟨xs, s', ?_, by omega, hb, src_mono hs (by omega)⟩
  unfold c_law_thing_0
  rw [h2]
  rfl
theorem thing1 {ns : List Int} {s : D} {kd lim sp : Int} {x5 : Option (D × Nat)} (hl : 0 ≤ lim) (hl2 : lim ≤ 60) (h0 : 3 ≤ sp) (h1 : sp ≤ 2 * 10 ^ 30) :
    ∃ xs, c_law_thing_1 (Fr (.kls (ns.map D.int)) s kd lim sp x5 none none none) = some (.ok (.val (I0 xs) 1) (Fr (.kls (ns.map D.int)) s kd lim sp x5 none none none)) ∧ xs.length ≤ 60 ∧ (∀ x ∈ xs, Bd x) := by
  have hf2 : fitB 4000 2 = true := by decide
  unfold c_law_thing_1
  generalize hc : ((ns.drop (HT.sIx ns.length 0 (some 2))).take (HT.sIx ns.length ns.length (some (2 + lim)) - HT.sIx ns.length 0 (some 2))) = cs
  have hlen : cs.length ≤ 60 := by
    rw [← hc, List.length_take]
    refine Nat.le_trans (Nat.min_le_left _ _) ?_
    simp only [HT.sIx]
    rw [if_neg (by omega), if_neg (by omega)]
    omega
  refine ⟨cs.map fun c => c % sp - sp / 2, ?_, by simpa using hlen, ?_⟩
  · rw [mLc_of cs D.int (fun c => .int (c % sp - sp / 2)) (e0 := Fr (.kls (ns.map D.int)) s kd lim sp x5 none none none) (e1 := Fr (.kls (ns.map D.int)) s kd lim sp x5 none none none) (by simp [M.bind, cut_map, hc]) (by unfold sizeLine; omega) rfl fun x hx => ?_]
    · simp [I0]
    · simp [lcStep, hf2, M.bind, show 0 < sp from by omega]
  · intro x hx
    obtain ⟨c, _, rfl⟩ := List.mem_map.mp hx
    have := Int.emod_nonneg c (show sp ≠ 0 by omega)
    have := Int.emod_lt_of_pos c (show 0 < sp by omega)
    unfold Bd
    omega
theorem thing2 {n : Nat} {sc s : D} {kd lim sp : Int} {xs : List Int} (h : Src n s) (hn : n < 50000) (h0 : 3 ≤ sp) (h1 : sp ≤ 2 * 10 ^ 30) (hx : xs.length ≤ 60) (hb : ∀ x ∈ xs, Bd x) :
    ∃ ws s' e, c_law_thing_2 (Fr sc s kd lim sp (some (I0 xs, 1)) none none none) = some (.ok (.val (W2 ws) 1) (Fr sc s' kd lim sp e none none none)) ∧ SmW ws ∧ Src (n + 100) s' := by
  have hf2 : fitB 4000 2 = true := by decide
  have hf : fitB 4000 (sp / 2 + 1) = true := fit_of (2 * 10 ^ 30) (by omega) (by omega) (by decide)
  obtain ⟨acc, e', h2, h3⟩ := mLc_inv (own := [6]) (ck := fun _ => 0) (mi := iL (mV 5)) (t := gN 6) (tt := mYes)
    (te := mTup (mCons (mF true dAbs (mCons (mV 6) mNil)) (mCons (mCall1 0 1 g_law_draw (mCons (mV 1) (mCons (mF true dAdd (mCons (mF true dDiv (mCons (mV 4) (mCons (mC (.int 2)) mNil))) (mCons (mC (.int 1)) mNil))) mNil))) mNil)))
    (e := Fr sc s kd lim sp (some (I0 xs, 1)) none none none) (e0 := Fr sc s kd lim sp (some (I0 xs, 0)) none none none) (ds := xs.map D.int)
    (fun i acc e => ∃ ws s', acc = ws.map W1 ∧ ws.length = i ∧ (∀ w ∈ ws, (w.1.natAbs < 10 ^ 40 ∧ w.2.natAbs < 10 ^ 40) ∧ 0 ≤ w.1 ∧ 0 ≤ w.2) ∧ e = Fr sc s' kd lim sp (some (I0 xs, 0)) none none none ∧ Src (n + i) s')
    (by simp [I0]) (by rw [List.length_map]; unfold sizeLine; omega) ⟨[], s, rfl, rfl, by simp, rfl, h⟩ (by
      intro i d acc e hd hI
      rw [List.getElem?_map] at hd
      obtain ⟨x, hx', rfl⟩ := Option.map_eq_some_iff.mp hd
      have hi := (List.getElem?_eq_some_iff.mp hx').1
      obtain ⟨ws, s', rfl, rfl, hb', rfl, hs⟩ := hI
      obtain ⟨q, s2, e2, q0, q1, hs2⟩ := draw_ok hs (by omega) (many := sp / 2 + 1) (by omega) hf
      have hg2 := src_reg hs2
      have hbx := hb x (List.mem_of_getElem? hx')
      unfold Bd at hbx
      refine ⟨[W1 (if x < 0 then -x else x, q)], Fr sc s2 kd lim sp (some (I0 xs, 0)) none none none, ?_, Nat.le_refl _, ws ++ [(if x < 0 then -x else x, q)], s2, by simp, by simp, ?_, rfl, by rw [Nat.add_assoc] at hs2; exact hs2⟩
      · simp [lcStep, e2, hg2, hf, hf2, M.bind, W1, mFz, sizeLine]
      · intro w hw
        rcases List.mem_append.mp hw with hw | hw
        · exact hb' w hw
        · simp at hw
          subst hw
          refine ⟨⟨?_, ?_⟩, ?_, q0⟩
          · show (if x < 0 then -x else x).natAbs < _
            split <;> omega
          · show q.natAbs < _
            omega
          · show 0 ≤ (if x < 0 then -x else x)
            split <;> omega)
  obtain ⟨ws, s', rfl, hl3, hb', rfl, hs⟩ := h3
  rw [List.length_map] at hl3 hs
  refine ⟨ws, s', some (I0 xs, 0), ?_, ⟨by omega, hb'⟩, src_mono hs (by omega)⟩
  unfold c_law_thing_2
  rw [h2]
  rfl
theorem ixN_end (n : Nat) : ixN (n + 1) (-1) = some n := by rw [ixN_last (by omega)]; rfl
/-- heaps: each has a card -/
def SmH (hs : List (List Int)) (n : Nat) : Prop := hs.length ≤ n ∧ ∀ xs ∈ hs, xs ≠ [] ∧ xs.length ≤ n ∧ ∀ x ∈ xs, Bd x
theorem SmH.piles {hs : List (List Int)} {n : Nat} (h : SmH hs n) (hn : n ≤ 90) : SmP hs := ⟨by have := h.1; omega, fun xs hx => ⟨by have := (h.2 xs hx).2.1; omega, fun x hx' => by have := (h.2 xs hx).2.2 x hx'; unfold Bd at this; omega⟩⟩
theorem add_end {hs : List (List Int)} {c : Int} {sc s : D} {kd lim sp : Int} {x5 : Option (D × Nat)} {h0 : List Int} : mAl 7 8 (-1) (argV 6) (Fr sc s kd lim sp x5 (some (.int c, 0)) (some (P0 (hs ++ [h0]), 2)) none) = if h0.length < sizeLine then some (.ok .nx (Fr sc s kd lim sp x5 (some (.int c, 0)) (some (P0 (hs ++ [h0 ++ [c]]), 2)) none)) else none := by
  simp [mAl, argV, P0, ixN_end, I0]
theorem thing3 {n : Nat} {sc s : D} {kd lim sp : Int} {xs : List Int} (h : Src n s) (hn : n < 50000) (hx : xs.length ≤ 60) (hb : ∀ x ∈ xs, Bd x) :
    ∃ hs s' x6, l_law_thing_0 (Fr sc s kd lim sp (some (I0 xs, 1)) none (some (.lst [], 2)) none) = some (.ok .nx (Fr sc s' kd lim sp (some (I0 xs, 0)) x6 (some (P0 hs, 2)) none)) ∧ SmH hs 60 ∧ Src (n + 100) s' := by
  unfold l_law_thing_0
  obtain ⟨e', h1, hs, s', x6, h2, rfl, h3⟩ := mFor_inv (mi := iL (mV 5)) (t := gN 6) (mb := b_law_thing_0) (e := Fr sc s kd lim sp (some (I0 xs, 1)) none (some (.lst [], 2)) none) (e0 := Fr sc s kd lim sp (some (I0 xs, 0)) none (some (.lst [], 2)) none) (ds := xs.map D.int)
    (fun i e => ∃ hs s' x6, SmH hs i ∧ e = Fr sc s' kd lim sp (some (I0 xs, 0)) x6 (some (P0 hs, 2)) none ∧ Src (n + i) s') (by simp [I0]) ⟨[], s, none, ⟨Nat.le_refl _, by simp⟩, rfl, h⟩ (by
      intro i d e hd hI
      rw [List.getElem?_map] at hd
      obtain ⟨x, hx', rfl⟩ := Option.map_eq_some_iff.mp hd
      have hi := (List.getElem?_eq_some_iff.mp hx').1
      have hbx := hb x (List.mem_of_getElem? hx')
      obtain ⟨hs, s', x6, hh, rfl, hss⟩ := hI
      obtain ⟨q, s2, e2, q0, q1, hs2⟩ := draw_ok hss (by omega) (many := 3) (by omega) (by decide)
      have hg2 := src_reg hs2
      rw [Nat.add_assoc] at hs2
      have hl : hs.length < sizeLine := by have := hh.1; unfold sizeLine; omega
      have hE := emp_P0 hs
      have hz : 0 < sizeLine := by decide
      have new : ∀ s2, Src (n + (i + 1)) s2 → ∃ hs' s'' x6', SmH hs' (i + 1) ∧ Fr sc s2 kd lim sp (some (I0 xs, 0)) (some (.int x, 0)) (some (P0 (hs ++ [[] ++ [x]]), 2)) none = Fr sc s'' kd lim sp (some (I0 xs, 0)) x6' (some (P0 hs', 2)) none ∧ Src (n + (i + 1)) s'' := fun s2 hs2 =>
        ⟨_, s2, _, ⟨by have := hh.1; simp; omega, fun ys hy => by
          rcases List.mem_append.mp hy with hy | hy
          · have := hh.2 ys hy
            exact ⟨this.1, by have := this.2.1; omega, this.2.2⟩
          · simp at hy
            subst hy
            exact ⟨by simp, by simp, by simpa using hbx⟩⟩, rfl, hs2⟩
      have mk : ∀ s2, mApp 7 1 (mNew 0) (Fr sc s2 kd lim sp (some (I0 xs, 0)) (some (.int x, 0)) (some (P0 hs, 2)) none) = some (.ok (.val .non 0) (Fr sc s2 kd lim sp (some (I0 xs, 0)) (some (.int x, 0)) (some (P0 (hs ++ [[]]), 2)) none)) := fun s2 => by
        simp [ev_app, P0, M.bind, hl, I0]
      by_cases hne : hs = []
      · refine ⟨_, ?_, new s' (src_mono hss (by omega))⟩
        subst hne
        have ad := add_end (hs := []) (c := x) (sc := sc) (s := s') (kd := kd) (lim := lim) (sp := sp) (x5 := some (I0 xs, 0)) (h0 := [])
        simp only [List.nil_append, List.length_nil, hz, if_true] at ad mk
        simp [fStep, b_law_thing_0, hE, mFz, M.bind, mk, ad]
      · by_cases hq : q = 1
        · refine ⟨_, ?_, new s2 hs2⟩
          have ad := add_end (hs := hs) (c := x) (sc := sc) (s := s2) (kd := kd) (lim := lim) (sp := sp) (x5 := some (I0 xs, 0)) (h0 := [])
          simp only [List.nil_append, List.length_nil, hz, if_true] at ad mk
          simp [fStep, b_law_thing_0, hE, mFz, M.bind, mk, ad, hne, e2, hq, hg2]
        · obtain ⟨hs', h0, rfl⟩ : ∃ a b, hs = a ++ [b] := ⟨hs.dropLast, hs.getLast hne, (List.dropLast_concat_getLast hne).symm⟩
          have hl0 : h0.length < sizeLine := by have := (hh.2 h0 (by simp)).2.1; unfold sizeLine; omega
          have ad := add_end (hs := hs') (c := x) (sc := sc) (s := s2) (kd := kd) (lim := lim) (sp := sp) (x5 := some (I0 xs, 0)) (h0 := h0)
          simp only [hl0, if_true] at ad
          refine ⟨Fr sc s2 kd lim sp (some (I0 xs, 0)) (some (.int x, 0)) (some (P0 (hs' ++ [h0 ++ [x]]), 2)) none, by simp [fStep, b_law_thing_0, hE, mFz, M.bind, ad, hne, e2, hq, hg2], hs' ++ [h0 ++ [x]], s2, some (.int x, 0), ⟨by have := hh.1; simp at this ⊢; omega, fun ys hy => ?_⟩, rfl, hs2⟩
          rcases List.mem_append.mp hy with hy | hy
          · have := hh.2 ys (List.mem_append_left _ hy)
            exact ⟨this.1, by have := this.2.1; omega, this.2.2⟩
          · simp at hy
            subst hy
            have := hh.2 h0 (by simp)
            refine ⟨by simp, by have := this.2.1; simp; omega, fun y hy => ?_⟩
            rcases List.mem_append.mp hy with hy | hy
            · exact this.2.2 y hy
            · simp at hy
              subst hy
              exact hbx)
  rw [List.length_map] at h2 h3
  exact ⟨hs, s', x6, h1, ⟨by have := h2.1; omega, fun ys hy => by have := h2.2 ys hy; exact ⟨this.1, by have := this.2.1; omega, this.2.2⟩⟩, src_mono h3 (by omega)⟩
theorem span_ok {r : Int} (h0 : 0 ≤ r) (h1 : r < 4) : ∃ sp : Int, atI [D.int 3, D.int 12, D.int 1003, D.int 1999999999999999999999999999999] r = some (D.int sp) ∧ 3 ≤ sp ∧ sp ≤ 2 * 10 ^ 30 := by
  rcases (show r = 0 ∨ r = 1 ∨ r = 2 ∨ r = 3 by omega) with rfl | rfl | rfl | rfl
  · exact ⟨3, rfl, by decide, by decide⟩
  · exact ⟨12, rfl, by decide, by decide⟩
  · exact ⟨1003, rfl, by decide, by decide⟩
  · exact ⟨_, rfl, by decide, by decide⟩
def Thing (kd : Int) (d : D) (k : Nat) : Prop := (kd = 0 ∧ k = 1 ∧ ∃ xs, d = I0 xs ∧ xs.length ≤ 60 ∧ ∀ x ∈ xs, Bd x) ∨ (kd = 1 ∧ k = 2 ∧ ∃ hs, d = P0 hs ∧ SmH hs 60) ∨ (kd = 2 ∧ k = 1 ∧ ∃ ws, d = W2 ws ∧ SmW ws)
theorem thing_ok {n : Nat} {ns : List Int} {s : D} {kd lim : Int} (h : Src n s) (hn : n < 40000) (hl : 0 ≤ lim) (hl2 : lim ≤ 60) (hk : kd = 0 ∨ kd = 1 ∨ kd = 2) :
    ∃ d k s', g_law_thing [.kls (ns.map D.int), s, .int kd, .int lim] = some (.ret d k [.kls (ns.map D.int), s', .int kd, .int lim]) ∧ Thing kd d k ∧ Src (n + 1000) s' := by
  obtain ⟨r, s1, e1, r0, r1, hs1⟩ := draw_ok h (by omega) (many := 4) (by omega) (by decide)
  obtain ⟨sp, a1, sp0, sp1⟩ := span_ok r0 r1
  have g1 := src_reg hs1
  have f2 : fitB 60 2 = true := by decide
  obtain ⟨xs, s2, e2, xl, xb, hs2⟩ := thing0 (sc := .kls (ns.map D.int)) (kd := kd) (lim := lim) hs1 (by omega) hl hl2 sp0 sp1
  obtain ⟨q, s3, e3, q0, q1, hs3⟩ := draw_ok hs2 (by omega) (many := 3) (by omega) (by decide)
  have g3 := src_reg hs3
  obtain ⟨ys, e4, yl, yb⟩ := thing1 (ns := ns) (s := s3) (kd := kd) (x5 := some (I0 xs, 1)) hl hl2 sp0 sp1
  obtain ⟨s4, zs, hz, hs4, hp⟩ : ∃ s4 zs, (zs.length ≤ 60 ∧ ∀ x ∈ zs, Bd x) ∧ Src (n + 500) s4 ∧ mIf (mAnd (mT (mF true dGt (mCons (mF false dLen (mCons (mV 0) mNil)) (mCons (mC (.int 2)) mNil)))) (mT (mF false dEq (mCons (mCall1 0 1 g_law_draw (mCons (mV 1) (mCons (mC (.int 3)) mNil))) (mCons (mC (.int 0)) mNil))))) (mSeq (mAsg 5 c_law_thing_1)
  mNx) mNx (Fr (.kls (ns.map D.int)) s2 kd lim sp (some (I0 xs, 1)) none none none) = some (.ok .nx (Fr (.kls (ns.map D.int)) s4 kd lim sp (some (I0 zs, 1)) none none none)) := by
    by_cases h2 : (2 : Int) < ns.length
    · by_cases hq : q = 0
      · refine ⟨s3, ys, ⟨yl, yb⟩, src_mono hs3 (by omega), ?_⟩
        simp [h2, e3, g3, hq, e4]
      · refine ⟨s3, xs, ⟨xl, xb⟩, src_mono hs3 (by omega), ?_⟩
        simp [h2, e3, g3, hq]
    · refine ⟨s2, xs, ⟨xl, xb⟩, src_mono hs2 (by omega), ?_⟩
      simp [h2]
  have hpre : ∀ rest : M Fl, mSeq (mAsg 4 (mF true dItem (mCons (mLst (mCons (mC (.int 3)) (mCons (mC (.int 12)) (mCons (mC (.int 1003)) (mCons (mF true dSub (mCons (mF true dMul (mCons (mC (.int 2)) (mCons (mF true dPow (mCons (mC (.int 10)) (mCons (mC (.int 30)) mNil))) mNil))) (mCons (mC (.int 1)) mNil))) mNil))))) (mCons (mCall1 0 1 g_law_draw (mCons (mV 1) (mCons (mC (.int 4)) mNil))) mNil))))
    (mSeq (mAsg 5 c_law_thing_0) rest) (en0 N_law_thing.length [0, 1, 0, 0] [.kls (ns.map D.int), s, .int kd, .int lim]) = rest (Fr (.kls (ns.map D.int)) s2 kd lim sp (some (I0 xs, 1)) none none none) := fun rest => by
    simp [mFz, M.bind, f2, sizeLine, e1, g1, a1, e2]
  rcases hk with rfl | rfl | rfl
  · refine ⟨I0 zs, 1, s4, run_ret (e := Fr (.kls (ns.map D.int)) s4 0 lim sp none none none none) ?_ rfl, .inl ⟨rfl, rfl, zs, rfl, hz.1, hz.2⟩, src_mono hs4 (by omega)⟩
    unfold m_law_thing
    rw [hpre, ev_seq, hp]
    simp
  · obtain ⟨hs, s5, x6, e5, hh, hs5⟩ := thing3 (sc := .kls (ns.map D.int)) (kd := 1) (lim := lim) (sp := sp) hs4 (by omega) hz.1 hz.2
    refine ⟨P0 hs, 2, s5, run_ret (e := Fr (.kls (ns.map D.int)) s5 1 lim sp (some (I0 zs, 0)) x6 none none) ?_ rfl, .inr (.inl ⟨rfl, rfl, hs, rfl, hh⟩), src_mono hs5 (by omega)⟩
    unfold m_law_thing
    rw [hpre, ev_seq, hp]
    simp [e5]
  · obtain ⟨ws, s5, x5, e5, hh, hs5⟩ := thing2 (sc := .kls (ns.map D.int)) (kd := 2) (lim := lim) (sp := sp) hs4 (by omega) sp0 sp1 hz.1 hz.2
    refine ⟨W2 ws, 1, s5, run_ret (e := Fr (.kls (ns.map D.int)) s5 2 lim sp x5 none none none) ?_ rfl, .inr (.inr ⟨rfl, rfl, ws, rfl, hh⟩), src_mono hs5 (by omega)⟩
    unfold m_law_thing
    rw [hpre, ev_seq, hp]
    simp [e5]
end NS
namespace NS
open PySem PySem.Spec PyProof.Rows L2 Rf TL
/-! ### what reads -/
theorem digit_in (c : Nat) : (!(Builtin.Str.occurrences (Str.ofString "0123456789") ⟨#[c]⟩ 0 (Str.ofString "0123456789").length 1).isEmpty) = decide (48 ≤ c ∧ c ≤ 57) := by
  rw [StrLaws.found_one]
  have : (Str.ofString "0123456789").cps.toList = [48, 49, 50, 51, 52, 53, 54, 55, 56, 57] := by decide +kernel
  rw [this]
  congr 1
  simp only [List.mem_cons, List.not_mem_nil, or_false, eq_iff_iff]
  omega
theorem notin_eq (c : Nat) : dNotInS [.str ⟨#[c]⟩, .str (Str.ofString "0123456789")] = some (.bl (!(decide (48 ≤ c ∧ c ≤ 57))), 0) := by
  show some (D.bl (!(!(Builtin.Str.occurrences (Str.ofString "0123456789") ⟨#[c]⟩ 0 (Str.ofString "0123456789").length 1).isEmpty)), 0) = _
  rw [digit_in]
theorem loop_num (w : Str) : ∀ (cs : List Nat) (x : Option (D × Nat)), ∃ x', mLoop (gN 1) b_is_number_0 (cs.map fun c => D.str ⟨#[c]⟩) [some (.str w, 0), x] = some (.ok (if digs cs = true then .nx else .ret (.bl false) 0) [some (.str w, 0), x'])
  | [], x => ⟨x, rfl⟩
  | c :: r, x => by
    obtain ⟨x', h⟩ := loop_num w r (some (.str ⟨#[c]⟩, 0))
    by_cases hc : 48 ≤ c ∧ c ≤ 57
    · refine ⟨x', ?_⟩
      have : digs (c :: r) = digs r := by simp [digs, hc]
      rw [this, ← h]
      simp [b_is_number_0, notin_eq, hc, M.bind]
    · refine ⟨some (.str ⟨#[c]⟩, 0), ?_⟩
      have : digs (c :: r) = false := by simp [digs, hc]
      rw [this]
      simp [b_is_number_0, notin_eq, hc, M.bind]
theorem is_number_eq {w : Str} (h : w.length ≤ sizeLine) : g_is_number [.str w] = some (.ret (.bl (numOk (tl w))) 0 [.str w]) := by
  obtain ⟨x', hl⟩ := loop_num w (tl w) none
  have hl : l_is_number_0 [some (.str w, 0), none] = some (.ok (if digs (tl w) = true then .nx else .ret (.bl false) 0) [some (.str w, 0), x']) := by
    unfold l_is_number_0
    simp [chD]
    exact hl
  have hlen : w.length = (tl w).length := len_tl w
  have h0 : (w = Str.ofString "") ↔ tl w = [] := str_iff _ _
  have t0 : tl (Str.ofString "0") = [48] := by decide +kernel
  cases hw : tl w with
  | nil =>
    refine run_ret (e := [some (.str w, 0), none]) ?_ rfl
    have : w = Str.ofString "" := h0.mpr hw
    unfold m_is_number
    simp [this, numOk]
  | cons c r =>
    have hne : w ≠ Str.ofString "" := fun z => by rw [h0.mp z] at hw; cases hw
    rw [hw] at hlen hl
    simp only [List.length_cons] at hlen
    have hc := ch_iff (c := c) t0
    have hat : atI w.cps.toList 0 = some c := by rw [show w.cps.toList = c :: r from hw]; exact at0 _ _
    by_cases h60 : (60 : Int) < ((w.length : Nat) : Int)
    · refine run_ret (e := [some (.str w, 0), none]) ?_ rfl
      have : numOk (c :: r) = false := by
        have : ¬ (c :: r).length ≤ 60 := by simp only [List.length_cons]; omega
        simp [numOk, this]
        omega
      unfold m_is_number
      simp [hne, h, h60, this]
    · have h60' : (c :: r).length ≤ 60 := by simp only [List.length_cons]; omega
      by_cases hz : c = 48 ∧ (1 : Int) < ((w.length : Nat) : Int)
      · refine run_ret (e := [some (.str w, 0), none]) ?_ rfl
        have : numOk (c :: r) = false := by
          obtain ⟨rfl, h2⟩ := hz
          have : 1 < ([48] ++ r).length := by simp; omega
          simp [numOk]
          intro _ h5
          exfalso
          subst h5
          simp at hlen
          omega
        obtain ⟨rfl, h2⟩ := hz
        unfold m_is_number
        simp [hne, h, h60, this, hat, hc.mpr rfl, h2]
      · refine run_ret (e := [some (.str w, 0), x']) ?_ rfl
        have hb : numOk (c :: r) = digs (c :: r) := by
          have h3 : ((c :: r).head? == some 48 && decide (1 < (c :: r).length)) = false := by
            cases hq : ((c :: r).head? == some 48 && decide (1 < (c :: r).length)) with
            | false => rfl
            | true =>
              exfalso
              rw [Bool.and_eq_true] at hq
              refine hz ⟨by simpa using hq.1, ?_⟩
              have := of_decide_eq_true hq.2
              simp only [List.length_cons] at this
              omega
          unfold numOk
          rw [h3, decide_eq_true h60']
          simp
        rw [hb]
        unfold m_is_number
        by_cases hc48 : c = 48
        · have h1 : ¬ (1 : Int) < ((w.length : Nat) : Int) := fun z => hz ⟨hc48, z⟩
          cases hd : digs (c :: r) <;> rw [hd] at hl <;> simp at hl <;> simp [hne, h, h60, hat, hc.mpr hc48, h1, hl]
        · have hc' : ¬ (⟨#[c]⟩ : Str) = Str.ofString "0" := fun z => hc48 (hc.mp z)
          cases hd : digs (c :: r) <;> rw [hd] at hl <;> simp at hl <;> simp [hne, h, h60, hat, hc', hl]
theorem is_card_eq {w : Str} (h : w.length ≤ sizeLine) : g_is_card [.str w] = some (.ret (.bl (cardOk (tl w))) 0 [.str w]) := by
  refine run_ret (e := [some (.str w, 0)]) ?_ rfl
  have h1 := cut_first w
  have h2 := cut_rest w
  have tm : tl (Str.ofString "-") = [45] := by decide +kernel
  have tm0 : tl (Str.ofString "-0") = [45, 48] := by decide +kernel
  have hl : (cutS w (some 1) none).length ≤ sizeLine := Nat.le_trans (cut_len _ _ _) h
  have e1 := is_number_eq hl
  have e2 := is_number_eq h
  have hd : cutS w none (some 1) = Str.ofString "-" ↔ (tl w).head? = some 45 := by
    rw [str_iff, h1, tm]
    cases tl w with
    | nil => simp
    | cons c r => simp
  have hd0 : w = Str.ofString "-0" ↔ tl w = [45, 48] := by rw [str_iff, tm0]
  unfold m_is_card cardOk
  by_cases hh : (tl w).head? = some 45
  · have := hd.mpr hh
    rw [h2] at e1
    by_cases hn : numOk (tl w).tail = true
    · simp [h, this, hh, e1, hn, hd0]
      by_cases hq : tl w = [45, 48] <;> simp [hq]
    · have hn : numOk (tl w).tail = false := by simpa using hn
      simp [h, this, hh, e1, hn]
  · have : ¬ cutS w none (some 1) = Str.ofString "-" := fun z => hh (hd.mp z)
    simp [h, this, hh, e2]
theorem Sm.fit60 {xs : List Int} (h : Sm xs) : ∀ x ∈ xs, x.natAbs < 10 ^ 60 := fun x hx => by have := h.2 x hx; omega
theorem sI_size {x : Int} (h : x.natAbs < 10 ^ 60) : (sI x).length ≤ 61 := sI_len (by decide) h
theorem ev_mut (j : Nat) (f : List D → List D → Option (List D × D)) (ms : M (List Op)) (e0 : En) : mMut j f ms e0 = (match e0[j]? with
  | some (some (.lst _, _)) => (M.bind (mFz ms) fun as e => match e[j]? with
    | some (some (.lst ds, 1)) => (match f ds as with
      | some (ds', d) => some (.ok (.val d 0) (e.set j (some (.lst ds', 1))))
      | none => none)
    | _ => none) e0
  | _ => none) := rfl
theorem loop_cards {pt tx : D} : ∀ (xs acc : List Int) (x3 : Option (D × Nat)), (∀ x ∈ xs, x.natAbs < 10 ^ 60) → acc.length + xs.length ≤ 1000 →
    ∃ x3', mLoop (gN 3) b_cards_in_0 (xs.map fun x => D.str (sI x)) [some (pt, 0), some (tx, 0), some (I0 acc, 1), x3] = some (.ok .nx [some (pt, 0), some (tx, 0), some (I0 (acc ++ xs), 1), x3'])
  | [], acc, x3, _, _ => ⟨x3, by simp⟩
  | x :: xs, acc, x3, hb, hl => by
    have hx := hb x (by simp)
    simp only [List.length_cons] at hl
    obtain ⟨x3', h⟩ := loop_cards (pt := pt) (tx := tx) xs (acc ++ [x]) (some (.str (sI x), 0)) (fun y hy => hb y (List.mem_cons_of_mem _ hy)) (by simp; omega)
    refine ⟨x3', ?_⟩
    have hs := sI_size hx
    have e1 := is_card_eq (w := sI x) (by unfold sizeLine; omega)
    rw [tl_sI, cardOk_sI hx] at e1
    have h1 : (sI x).length ≤ 640 := by omega
    have h2 : acc.length < sizeLine := by unfold sizeLine; omega
    rw [List.map_cons, f_step (e' := [some (pt, 0), some (tx, 0), some (I0 (acc ++ [x]), 1), some (.str (sI x), 0)]) (by simp [fStep, b_cards_in_0, M.bind, e1, ev_mut, mFz, h1, int_sI hx, fAppend, h2, I0]), h]
    simp
theorem dSplit_eq (a b : Str) : dSplit [.str a, .str b] = if (b.length == 0) = false ∧ a.length + 2 ≤ sizeLine then some (.lst ((Txt.split a b).map D.str), 1) else none := rfl
theorem cards_in_eq {a b : Str} {xs : List Int} (hb : ∀ x ∈ xs, x.natAbs < 10 ^ 60) (hl : xs.length ≤ 1000) (hs : Txt.split a " " = xs.map sI) (ha : a.length + 2 ≤ sizeLine) : g_cards_in [.str a, .str b] = some (.ret (I0 xs) 1 [.str a, .str b]) := by
  obtain ⟨x3', h⟩ := loop_cards (pt := .str a) (tx := .str b) xs [] none hb (by simpa using hl)
  have h1 : ((Str.ofString " ").length == 0) = false := by decide
  have h2 : l_cards_in_0 [some (.str a, 0), some (.str b, 0), some (.lst [], 1), none] = some (.ok .nx [some (.str a, 0), some (.str b, 0), some (I0 xs, 1), x3']) := by
    unfold l_cards_in_0
    simp only [List.nil_append] at h
    simp [dSplit_eq, h1, ha, hs]
    exact h
  refine run_ret (e := [some (.str a, 0), some (.str b, 0), none, x3']) ?_ rfl
  unfold m_cards_in
  simp [mFz, M.bind, h2, sizeLine]
theorem row_ne {xs : List Int} (h : xs ≠ []) : Str.join " " (xs.map sI) ≠ "-" := by
  intro z
  have hs := split_sp (ys := xs.map sI) (by simpa using h) fun y hy => by
    obtain ⟨x, _, rfl⟩ := List.mem_map.mp hy
    exact sI_free (by omega)
  rw [z] at hs
  have h1 : Txt.split (Str.ofString "-") (Str.ofString " ") = [Str.ofString "-"] := split_sp (ys := [Str.ofString "-"]) (by simp) (by decide +kernel)
  rw [h1] at hs
  cases xs with
  | nil => exact h rfl
  | cons x xs =>
    simp only [List.map_cons, List.cons.injEq] at hs
    exact sI_ne_dash x hs.1.symm
theorem row_split {xs : List Int} (h : xs ≠ []) : Txt.split (rowS xs) " " = xs.map sI := by
  unfold rowS
  rw [if_neg h]
  exact split_sp (by simpa using h) fun y hy => by
    obtain ⟨x, _, rfl⟩ := List.mem_map.mp hy
    exact sI_free (by omega)
theorem read_row_eq {xs : List Int} (h : Sm xs) : g_read_row [.str (rowS xs)] = some (.ret (I0 xs) 1 [.str (rowS xs)]) := by
  refine run_ret (e := [some (.str (rowS xs), 0)]) ?_ rfl
  unfold m_read_row
  by_cases hx : xs = []
  · subst hx
    simp [rowS, mFz, M.bind, sizeLine, I0]
  · have h1 : ¬ rowS xs = Str.ofString "-" := by unfold rowS; rw [if_neg hx]; exact row_ne hx
    have h2 := cards_in_eq (a := rowS xs) (b := rowS xs) h.fit60 (by have := h.1; omega) (row_split hx) (by have := row_len h; unfold sizeLine; omega)
    simp [h1, h2, I0]
theorem row_mem {xs : List Int} {c : Nat} (h : c ∈ tl (rowS xs)) : c = 32 ∨ (45 ≤ c ∧ c ≤ 57) := by
  unfold rowS at h
  split at h
  · have : tl (Str.ofString "-") = [45] := by decide +kernel
    rw [this] at h
    simp at h
    omega
  · rcases mem_join h with h | ⟨y, hy, h⟩
    · have : tl (Str.ofString " ") = [32] := by decide +kernel
      rw [this] at h
      simp at h
      exact .inl h
    · obtain ⟨x, _, rfl⟩ := List.mem_map.mp hy
      by_cases hc : 45 ≤ c ∧ c ≤ 57
      · exact .inr hc
      · exact absurd h (sI_free (by omega))
theorem rowS_ne {xs : List Int} (h : xs ≠ []) : rowS xs ≠ "-" := by
  unfold rowS
  rw [if_neg h]
  exact row_ne h
theorem piles_split {hs : List (List Int)} (h : hs ≠ []) : Txt.split (pilesS hs) " | " = hs.map rowS := by
  unfold pilesS
  rw [if_neg h]
  exact split_bar (by simpa using h) fun y hy => by
    obtain ⟨x, _, rfl⟩ := List.mem_map.mp hy
    intro z
    have := row_mem z
    omega
theorem pilesS_ne {hs : List (List Int)} (h : hs ≠ []) (hn : ∀ xs ∈ hs, xs ≠ []) : pilesS hs ≠ "-" := by
  intro z
  have h1 := piles_split h
  rw [z] at h1
  have h2 : Txt.split (Str.ofString "-") (Str.ofString " | ") = [Str.ofString "-"] := split_bar (ys := [Str.ofString "-"]) (by simp) (by decide +kernel)
  rw [h2] at h1
  cases hs with
  | nil => exact h rfl
  | cons x xs =>
    simp only [List.map_cons, List.cons.injEq] at h1
    exact rowS_ne (hn x (by simp)) h1.1.symm
theorem read_piles_eq {hs : List (List Int)} {n : Nat} (h : SmH hs n) (hn : n ≤ 90) : g_read_piles [.str (pilesS hs)] = some (.ret (P0 hs) 2 [.str (pilesS hs)]) ∨ hs = [] ∧ g_read_piles [.str (pilesS hs)] = some (.ret (P0 hs) 1 [.str (pilesS hs)]) := by
  by_cases hx : hs = []
  · subst hx
    refine .inr ⟨rfl, run_ret (e := [some (.str (pilesS []), 0), none]) ?_ rfl⟩
    unfold m_read_piles
    simp [pilesS, mFz, M.bind, sizeLine, P0]
  · refine .inl (run_ret (e := [some (.str (pilesS hs), 0), none]) ?_ rfl)
    have h1 := pilesS_ne hx fun xs hq => (h.2 xs hq).1
    have hp := h.piles hn
    have hlen := piles_len hp
    have hd : ((Str.ofString " | ").length == 0) = false := by decide
    have hs2 : (pilesS hs).length + 2 ≤ sizeLine := by unfold sizeLine; omega
    have hc : c_read_piles_0 [some (.str (pilesS hs), 0), none] = some (.ok (.val (P0 hs) 2) [some (.str (pilesS hs), 0), none]) := by
      unfold c_read_piles_0
      rw [mLc_of hs (fun xs => D.str (rowS xs)) I0 (e0 := [some (.str (pilesS hs), 0), none]) (e1 := [some (.str (pilesS hs), 0), none]) (by simp [dSplit_eq, hd, hs2, piles_split hx]) (by have := hp.1; unfold sizeLine; omega) rfl fun x hq => ?_]
      · simp [ck_read_piles_0, P0]
      · have hr := h.2 x hq
        have hm := hp.2 x hq
        have h2 := cards_in_eq (a := rowS x) (b := pilesS hs) hm.fit60 (by have := hm.1; omega) (row_split hr.1) (by have := row_len hm; unfold sizeLine; omega)
        have hg : reg (I0 x) 1 = true := by simp [I0]
        simp [lcStep, M.bind, h2, ck_read_piles_0, hg]
    unfold m_read_piles
    simp [h1, hc]
/-! ways -/
theorem wS_join (w : Int × Int) : wS w = Str.join ":" [sI w.1, sI w.2] := by
  show _ = sI w.1 ++ Str.ofString ":" ++ sI w.2
  unfold wS
  simp
theorem wS_split (w : Int × Int) : Txt.split (wS w) ":" = [sI w.1, sI w.2] := by
  rw [wS_join]
  exact split_colon (by simp) fun y hy => by
    simp at hy
    rcases hy with rfl | rfl <;> exact sI_free (by omega)
theorem wS_mem {w : Int × Int} {c : Nat} (h : c ∈ tl (wS w)) : 45 ≤ c := by
  rw [wS_join] at h
  rcases mem_join h with h | ⟨y, hy, h⟩
  · have : tl (Str.ofString ":") = [58] := by decide +kernel
    rw [this] at h
    simp at h
    omega
  · by_cases hc : 45 ≤ c
    · exact hc
    · simp at hy
      rcases hy with rfl | rfl <;> exact absurd h (sI_free (by omega))
theorem wS_ne (w : Int × Int) : wS w ≠ "-" := by
  intro z
  have h1 := wS_split w
  rw [z] at h1
  have h2 : Txt.split (Str.ofString "-") (Str.ofString ":") = [Str.ofString "-"] := split_colon (ys := [Str.ofString "-"]) (by simp) (by decide +kernel)
  rw [h2] at h1
  simp at h1
theorem way_split {ws : List (Int × Int)} (h : ws ≠ []) : Txt.split (wayS ws) " " = ws.map wS := by
  unfold wayS
  rw [if_neg h]
  exact split_sp (by simpa using h) fun y hy => by
    obtain ⟨x, _, rfl⟩ := List.mem_map.mp hy
    intro z
    have := wS_mem z
    omega
theorem wayS_ne {ws : List (Int × Int)} (h : ws ≠ []) : wayS ws ≠ "-" := by
  intro z
  have h1 := way_split h
  rw [z] at h1
  have h2 : Txt.split (Str.ofString "-") (Str.ofString " ") = [Str.ofString "-"] := split_sp (ys := [Str.ofString "-"]) (by simp) (by decide +kernel)
  rw [h2] at h1
  cases ws with
  | nil => exact h rfl
  | cons x xs =>
    simp only [List.map_cons, List.cons.injEq] at h1
    exact wS_ne x h1.1.symm
theorem way_len {ws : List (Int × Int)} (h : SmW ws) : (wayS ws).length ≤ 9000 := by
  unfold wayS
  split
  · decide
  · have := join_len (a := " ") 100 83 (ys := ws.map wS) (fun y hy => by
      obtain ⟨x, hx, rfl⟩ := List.mem_map.mp hy
      exact wS_len (h.2 x hx).1) (by simpa using h.1)
    have h1 : (Str.ofString " ").length = 1 := by decide
    omega
theorem num_sI {x : Int} (h0 : 0 ≤ x) (h : x.natAbs < 10 ^ 60) : numOk (tl (sI x)) = true := by
  rw [tl_sI]
  unfold sIL
  rw [if_neg (by omega)]
  exact numOk_num h
theorem loop_way {tx : D} : ∀ (ws acc : List (Int × Int)) (x2 x3 : Option (D × Nat)), (∀ w ∈ ws, (w.1.natAbs < 10 ^ 40 ∧ w.2.natAbs < 10 ^ 40) ∧ 0 ≤ w.1 ∧ 0 ≤ w.2) → acc.length + ws.length ≤ 1000 →
    ∃ x2' x3', mLoop (gN 2) b_read_way_0 (ws.map fun w => D.str (wS w)) [some (tx, 0), some (W2 acc, 1), x2, x3] = some (.ok .nx [some (tx, 0), some (W2 (acc ++ ws), 1), x2', x3'])
  | [], acc, x2, x3, _, _ => ⟨x2, x3, by simp⟩
  | w :: ws, acc, x2, x3, hb, hl => by
    have hx := hb w (by simp)
    simp only [List.length_cons] at hl
    obtain ⟨x2', x3', h⟩ := loop_way (tx := tx) ws (acc ++ [w]) (some (.str (wS w), 0)) (some (.lst [.str (sI w.1), .str (sI w.2)], 1)) (fun y hy => hb y (List.mem_cons_of_mem _ hy)) (by simp; omega)
    refine ⟨x2', x3', ?_⟩
    have b1 : w.1.natAbs < 10 ^ 60 := by omega
    have b2 : w.2.natAbs < 10 ^ 60 := by omega
    have s1 := sI_size b1
    have s2 := sI_size b2
    have e1 := is_number_eq (w := sI w.1) (by unfold sizeLine; omega)
    rw [num_sI hx.2.1 b1] at e1
    have e2 := is_number_eq (w := sI w.2) (by unfold sizeLine; omega)
    rw [num_sI hx.2.2 b2] at e2
    have h1 : (sI w.1).length ≤ 640 := by omega
    have h2 : (sI w.2).length ≤ 640 := by omega
    have h3 : acc.length < sizeLine := by unfold sizeLine; omega
    have h4 := wS_len hx.1
    have h5 : (wS w).length + 2 ≤ sizeLine := by unfold sizeLine; omega
    have h6 : 2 ≤ sizeLine := by decide
    have hd : ((Str.ofString ":").length == 0) = false := by decide
    rw [List.map_cons, f_step (e' := [some (tx, 0), some (W2 (acc ++ [w]), 1), some (.str (wS w), 0), some (.lst [.str (sI w.1), .str (sI w.2)], 1)]) (by simp [fStep, b_read_way_0, M.bind, e1, e2, ev_mut, mFz, h1, h2, int_sI b1, int_sI b2, fAppend, h3, W2, W1, dSplit_eq, hd, h5, wS_split, h6]), h]
    simp
theorem read_way_eq {ws : List (Int × Int)} (h : SmW ws) : g_read_way [.str (wayS ws)] = some (.ret (W2 ws) 1 [.str (wayS ws)]) := by
  by_cases hx : ws = []
  · subst hx
    refine run_ret (e := [some (.str (wayS []), 0), none, none, none]) ?_ rfl
    unfold m_read_way
    simp [wayS, mFz, M.bind, sizeLine, W2]
  · obtain ⟨x2, x3, hl⟩ := loop_way (tx := .str (wayS ws)) ws [] none none h.2 (by have := h.1; simp; omega)
    have h1 := wayS_ne hx
    have hlen := way_len h
    have hd : ((Str.ofString " ").length == 0) = false := by decide
    have hs2 : (wayS ws).length + 2 ≤ sizeLine := by unfold sizeLine; omega
    have h2 : l_read_way_0 [some (.str (wayS ws), 0), some (.lst [], 1), none, none] = some (.ok .nx [some (.str (wayS ws), 0), some (W2 ws, 1), x2, x3]) := by
      unfold l_read_way_0
      simp only [List.nil_append] at hl
      simp [dSplit_eq, hd, hs2, way_split hx]
      exact hl
    refine run_ret (e := [some (.str (wayS ws), 0), none, x2, x3]) ?_ rfl
    unfold m_read_way
    simp [h1, mFz, M.bind, h2, sizeLine]
end NS
namespace NS
open PySem PySem.Spec PyProof.Rows L2 Rf TL
/-! ### the law -/
theorem zip_self : ∀ ds : List D, zipD ds ds = ds.map fun d => .tup [d, d]
  | [] => rfl
  | d :: ds => by simp [zipD, zip_self ds]
theorem ev_iZ (ms : M (List Op)) (e : En) : iZ ms e = (M.bind (mFz ms) fun ds => oK (zpOf ds)) e := rfl
theorem all_true : ∀ n : Nat, asBls (List.replicate n (.bl true)) = some (List.replicate n true)
  | 0 => rfl
  | n + 1 => by simp [List.replicate_succ, asBls, all_true n]
theorem dAll_true (n : Nat) : dAll [.lst (List.replicate n (.bl true))] = some (.bl true, 0) := by
  unfold dAll
  simp [all_true]
theorem c_same {n : Nat} {a b : D} {ds : List D} (hz : zpOf [a, b] = some (zipD ds ds)) (hl : ds.length ≤ sizeLine) (h : ∀ d ∈ ds, g_law_same n [d, d] = some (.ret (.bl true) 0 [d, d])) :
    c_law_same_0 (g_law_same n) [some (a, 0), some (b, 0), none, none] = some (.ok (.val (.lst (List.replicate ds.length (.bl true))) 1) [some (a, 0), some (b, 0), none, none]) := by
  unfold c_law_same_0
  rw [mLc_of ds (fun d => .tup [d, d]) (fun _ => .bl true) (e0 := [some (a, 0), some (b, 0), none, none]) (e1 := [some (a, 0), some (b, 0), none, none]) (by simp [ev_iZ, mFz, M.bind, hz, zip_self]) hl rfl fun d hd => ?_]
  · simp [List.map_const']
  · simp [lcStep, M.bind, h d hd]
theorem same_lst {n : Nat} {ds : List D} (hl : ds.length ≤ sizeLine) (h : ∀ d ∈ ds, g_law_same n [d, d] = some (.ret (.bl true) 0 [d, d])) : g_law_same (n + 1) [.lst ds, .lst ds] = some (.ret (.bl true) 0 [.lst ds, .lst ds]) := by
  refine run_ret (e := [some (.lst ds, 0), some (.lst ds, 0), none, none]) ?_ rfl
  have hc := c_same (n := n) (a := .lst ds) (b := .lst ds) (ds := ds) rfl hl h
  unfold m_law_same
  simp [isaD, hc, dAll_true]
theorem same_tup {n : Nat} {ds : List D} (hl : ds.length ≤ sizeLine) (h : ∀ d ∈ ds, g_law_same n [d, d] = some (.ret (.bl true) 0 [d, d])) : g_law_same (n + 1) [.tup ds, .tup ds] = some (.ret (.bl true) 0 [.tup ds, .tup ds]) := by
  refine run_ret (e := [some (.tup ds, 0), some (.tup ds, 0), none, none]) ?_ rfl
  have hc := c_same (n := n) (a := .tup ds) (b := .tup ds) (ds := ds) rfl hl h
  unfold m_law_same
  simp [isaD, hc, dAll_true]
theorem same_int {n : Nat} {a : Int} : g_law_same (n + 1) [.int a, .int a] = some (.ret (.bl true) 0 [.int a, .int a]) := by
  refine run_ret (e := [some (.int a, 0), some (.int a, 0), none, none]) ?_ rfl
  unfold m_law_same
  simp [isaD]
theorem same_I0 {n : Nat} {xs : List Int} (h : xs.length ≤ 1000) : g_law_same (n + 2) [I0 xs, I0 xs] = some (.ret (.bl true) 0 [I0 xs, I0 xs]) := same_lst (by simp; unfold sizeLine; omega) fun d hd => by
  obtain ⟨x, _, rfl⟩ := List.mem_map.mp hd
  exact same_int
theorem same_P0 {n : Nat} {hs : List (List Int)} (h : SmP hs) : g_law_same (n + 3) [P0 hs, P0 hs] = some (.ret (.bl true) 0 [P0 hs, P0 hs]) := same_lst (by have := h.1; simp; unfold sizeLine; omega) fun d hd => by
  obtain ⟨x, hx, rfl⟩ := List.mem_map.mp hd
  exact same_I0 (by have := (h.2 x hx).1; omega)
theorem same_W2 {n : Nat} {ws : List (Int × Int)} (h : ws.length ≤ 1000) : g_law_same (n + 3) [W2 ws, W2 ws] = some (.ret (.bl true) 0 [W2 ws, W2 ws]) := same_lst (by simp; unfold sizeLine; omega) fun d hd => by
  obtain ⟨x, hx, rfl⟩ := List.mem_map.mp hd
  exact same_tup (ds := [.int x.1, .int x.2]) (show 2 ≤ sizeLine by decide) fun d hd => by
    simp at hd
    rcases hd with rfl | rfl <;> exact same_int
/-! texts tell their things -/
theorem map_sI_inj : ∀ {xs ys : List Int}, xs.map sI = ys.map sI → xs = ys
  | [], [], _ => rfl
  | [], _ :: _, h => by cases h
  | _ :: _, [], h => by cases h
  | x :: xs, y :: ys, h => by
    simp only [List.map_cons, List.cons.injEq] at h
    rw [sI_inj h.1, map_sI_inj h.2]
theorem rowS_inj {xs ys : List Int} (h : rowS xs = rowS ys) : xs = ys := by
  by_cases hx : xs = []
  · by_cases hy : ys = []
    · rw [hx, hy]
    · subst hx
      exact absurd h.symm (rowS_ne hy)
  · by_cases hy : ys = []
    · subst hy
      exact absurd h (rowS_ne hx)
    · have h1 := row_split hx
      rw [h, row_split hy] at h1
      exact (map_sI_inj h1).symm
theorem map_rowS_inj : ∀ {xs ys : List (List Int)}, xs.map rowS = ys.map rowS → xs = ys
  | [], [], _ => rfl
  | [], _ :: _, h => by cases h
  | _ :: _, [], h => by cases h
  | x :: xs, y :: ys, h => by
    simp only [List.map_cons, List.cons.injEq] at h
    rw [rowS_inj h.1, map_rowS_inj h.2]
theorem pilesS_inj {xs ys : List (List Int)} (h1 : ∀ x ∈ xs, x ≠ []) (h2 : ∀ x ∈ ys, x ≠ []) (h : pilesS xs = pilesS ys) : xs = ys := by
  by_cases hx : xs = []
  · by_cases hy : ys = []
    · rw [hx, hy]
    · subst hx
      exact absurd h.symm (pilesS_ne hy h2)
  · by_cases hy : ys = []
    · subst hy
      exact absurd h (pilesS_ne hx h1)
    · have h3 := piles_split hx
      rw [h, piles_split hy] at h3
      exact (map_rowS_inj h3).symm
theorem wS_inj {a b : Int × Int} (h : wS a = wS b) : a = b := by
  have h1 := wS_split a
  rw [h, wS_split b] at h1
  simp only [List.cons.injEq, and_true] at h1
  exact Prod.ext (sI_inj h1.1).symm (sI_inj h1.2).symm
theorem map_wS_inj : ∀ {xs ys : List (Int × Int)}, xs.map wS = ys.map wS → xs = ys
  | [], [], _ => rfl
  | [], _ :: _, h => by cases h
  | _ :: _, [], h => by cases h
  | x :: xs, y :: ys, h => by
    simp only [List.map_cons, List.cons.injEq] at h
    rw [wS_inj h.1, map_wS_inj h.2]
theorem wayS_inj {xs ys : List (Int × Int)} (h : wayS xs = wayS ys) : xs = ys := by
  by_cases hx : xs = []
  · by_cases hy : ys = []
    · rw [hx, hy]
    · subst hx
      exact absurd h.symm (wayS_ne hy)
  · by_cases hy : ys = []
    · subst hy
      exact absurd h (wayS_ne hx)
    · have h1 := way_split hx
      rw [h, way_split hy] at h1
      exact (map_wS_inj h1).symm
theorem I0_inj {xs ys : List Int} (h : I0 xs = I0 ys) : xs = ys := by
  unfold I0 at h
  simp only [D.lst.injEq] at h
  exact (List.map_inj_right fun _ _ h => by simpa using h).mp h
theorem P0_inj {xs ys : List (List Int)} (h : P0 xs = P0 ys) : xs = ys := by
  unfold P0 at h
  simp only [D.lst.injEq] at h
  exact (List.map_inj_right fun _ _ h => I0_inj h).mp h
theorem W2_inj {xs ys : List (Int × Int)} (h : W2 xs = W2 ys) : xs = ys := by
  unfold W2 at h
  simp only [D.lst.injEq] at h
  exact (List.map_inj_right fun a b h => by
    unfold W1 at h
    simp at h
    exact Prod.ext h.1 h.2).mp h
/-- the things of a kind, whatever they are owned -/
def TK (kd : Int) (d : D) : Prop := (kd = 0 ∧ ∃ xs, d = I0 xs ∧ xs.length ≤ 60 ∧ ∀ x ∈ xs, Bd x) ∨ (kd = 1 ∧ ∃ hs, d = P0 hs ∧ SmH hs 60) ∨ (kd = 2 ∧ ∃ ws, d = W2 ws ∧ SmW ws)
theorem Thing.tk {kd : Int} {d : D} {k : Nat} (h : Thing kd d k) : TK kd d ∧ (k = 1 ∨ k = 2) ∧ reg d k = true := by
  rcases h with ⟨rfl, rfl, xs, rfl, h1, h2⟩ | ⟨rfl, rfl, hs, rfl, h1⟩ | ⟨rfl, rfl, ws, rfl, h1⟩
  · exact ⟨.inl ⟨rfl, xs, rfl, h1, h2⟩, .inl rfl, by simp [I0]⟩
  · refine ⟨.inr (.inl ⟨rfl, hs, rfl, h1⟩), .inr rfl, ?_⟩
    unfold P0
    rw [reg_lst, regL_map _ _ _ fun x _ => by simp [I0]]
    rfl
  · refine ⟨.inr (.inr ⟨rfl, ws, rfl, h1⟩), .inl rfl, ?_⟩
    unfold W2
    rw [reg_lst, regL_map _ _ _ fun x _ => by simp [W1]]
    rfl
theorem sm60 {xs : List Int} (h : xs.length ≤ 61) (hb : ∀ x ∈ xs, Bd x) : Sm xs := ⟨by omega, fun x hx => by have := hb x hx; unfold Bd at this; omega⟩
theorem text0 {xs : List Int} (h : Sm xs) : g_law_text [.int 0, I0 xs] = some (.ret (.str (rowS xs)) 0 [.int 0, I0 xs]) := by
  refine run_ret (e := [some (.int 0, 0), some (I0 xs, 0)]) ?_ rfl
  unfold m_law_text
  simp [row_eq h]
theorem text1 {xs : List (List Int)} (h : SmP xs) : g_law_text [.int 1, P0 xs] = some (.ret (.str (pilesS xs)) 0 [.int 1, P0 xs]) := by
  refine run_ret (e := [some (.int 1, 0), some (P0 xs, 0)]) ?_ rfl
  unfold m_law_text
  simp [piles_eq h]
theorem text2 {xs : List (Int × Int)} (h : SmW xs) : g_law_text [.int 2, W2 xs] = some (.ret (.str (wayS xs)) 0 [.int 2, W2 xs]) := by
  refine run_ret (e := [some (.int 2, 0), some (W2 xs, 0)]) ?_ rfl
  unfold m_law_text
  simp [way_eq h]
theorem back_of {kd : Int} {t : Str} {d : D} {k : Nat} (hk : kd = 0 ∧ g_read_row [.str t] = some (.ret d k [.str t]) ∨ kd = 1 ∧ g_read_piles [.str t] = some (.ret d k [.str t]) ∨ kd = 2 ∧ g_read_way [.str t] = some (.ret d k [.str t])) (hr : reg d k = true) : g_law_back [.int kd, .str t] = some (.ret d k [.int kd, .str t]) := by
  refine run_ret (e := [some (.int kd, 0), some (.str t, 0)]) ?_ rfl
  unfold m_law_back
  rcases hk with ⟨rfl, h⟩ | ⟨rfl, h⟩ | ⟨rfl, h⟩ <;> simp [mPerm, pId, M.bind, h, hr]
/-- what the law asks of a thing of one kind -/
structure Kd (kd : Int) (d : D) (t : Str) (ds : List D) (k : Nat) : Prop where
  isL : d = .lst ds
  len : ds.length ≤ 100
  text : g_law_text [.int kd, d] = some (.ret (.str t) 0 [.int kd, d])
  back : g_law_back [.int kd, .str t] = some (.ret d k [.int kd, .str t])
  k12 : k = 1 ∨ k = 2
  regk : reg d k = true
  same : g_law_same 6 [d, d] = some (.ret (.bl true) 0 [d, d])
  two : kd = 1 → ds ≠ [] → k = 2 ∧ ∃ h rest, ds = I0 h :: rest.map I0 ∧ SmP rest ∧ h.length ≤ 100
theorem TK.kd {kd : Int} {d : D} (h : TK kd d) : ∃ t ds k, Kd kd d t ds k := by
  rcases h with ⟨rfl, xs, rfl, h1, h2⟩ | ⟨rfl, hs, rfl, h1⟩ | ⟨rfl, ws, rfl, h1⟩
  · have hm := sm60 (by omega) h2
    have hr : reg (I0 xs) 1 = true := by simp [I0]
    exact ⟨rowS xs, xs.map D.int, 1, rfl, by simpa using hm.1, text0 hm, back_of (.inl ⟨rfl, read_row_eq hm⟩) hr, .inl rfl, hr, same_I0 (n := 4) (by omega), fun z => by cases z⟩
  · have hm := h1.piles (by omega)
    have hr : ∀ k, reg (P0 hs) (k + 2) = true := fun k => by
      unfold P0
      rw [reg_lst, regL_map _ _ _ fun x _ => by simp [I0]]
      rfl
    rcases read_piles_eq h1 (by omega) with hb | ⟨rfl, hb⟩
    · refine ⟨pilesS hs, hs.map I0, 2, rfl, by simpa using hm.1, text1 hm, back_of (.inr (.inl ⟨rfl, hb⟩)) (hr 0), .inr rfl, hr 0, same_P0 (n := 3) hm, fun _ hne => ⟨rfl, ?_⟩⟩
      cases hs with
      | nil => exact absurd rfl hne
      | cons h rest => exact ⟨h, rest, rfl, ⟨by have := hm.1; simp at this; omega, fun xs hx => hm.2 xs (List.mem_cons_of_mem _ hx)⟩, (hm.2 h (by simp)).1⟩
    · have hr1 : reg (P0 []) 1 = true := by simp [P0]
      exact ⟨pilesS [], [], 1, rfl, by simp, text1 hm, back_of (.inr (.inl ⟨rfl, hb⟩)) hr1, .inl rfl, hr1, same_P0 (n := 3) hm, fun _ z => absurd rfl z⟩
  · have hr : reg (W2 ws) 1 = true := by
      unfold W2
      rw [reg_lst, regL_map _ _ _ fun x _ => by simp [W1]]
      rfl
    exact ⟨wayS ws, ws.map W1, 1, rfl, by simpa using h1.1, text2 h1, back_of (.inr (.inr ⟨rfl, read_way_eq h1⟩)) hr, .inl rfl, hr, same_W2 (n := 3) (by have := h1.1; omega), fun z => by cases z⟩
theorem TK.eq {kd : Int} {d o : D} {t u : Str} {ds us : List D} {k l : Nat} (h : TK kd d) (g : TK kd o) (hk : Kd kd d t ds k) (gk : Kd kd o u us l) : eqD d o = some (decide (t = u)) := by
  have ht := hk.text
  have gt := gk.text
  rcases h with ⟨rfl, xs, rfl, h1, h2⟩ | ⟨rfl, hs, rfl, h1⟩ | ⟨rfl, ws, rfl, h1⟩ <;> rcases g with ⟨z, ys, rfl, g1, g2⟩ | ⟨z, gs, rfl, g1⟩ | ⟨z, vs, rfl, g1⟩ <;> try (cases z; done)
  · rw [text0 (sm60 (by omega) h2)] at ht
    rw [text0 (sm60 (by omega) g2)] at gt
    simp at ht gt
    subst ht
    subst gt
    unfold I0
    rw [eqD_lst (by simp) (by simp)]
    have : (xs.map D.int = ys.map D.int) ↔ rowS xs = rowS ys := ⟨fun z => by rw [I0_inj (show I0 xs = I0 ys by unfold I0; rw [z])], fun z => by rw [rowS_inj z]⟩
    simp [this]
  · rw [text1 (h1.piles (by omega))] at ht
    rw [text1 (g1.piles (by omega))] at gt
    simp at ht gt
    subst ht
    subst gt
    unfold P0
    rw [eqD_lst (layL_map _ _ _ fun x _ => lay_I0 _ x) (layL_map _ _ _ fun x _ => lay_I0 _ x)]
    have : (hs.map I0 = gs.map I0) ↔ pilesS hs = pilesS gs := ⟨fun z => by rw [P0_inj (show P0 hs = P0 gs by unfold P0; rw [z])], fun z => by rw [pilesS_inj (fun x hx => (h1.2 x hx).1) (fun x hx => (g1.2 x hx).1) z]⟩
    simp [this]
  · rw [text2 h1] at ht
    rw [text2 g1] at gt
    simp at ht gt
    subst ht
    subst gt
    unfold W2
    rw [eqD_lst (layL_map _ _ _ fun x _ => by simp [W1]) (layL_map _ _ _ fun x _ => by simp [W1])]
    have : (ws.map W1 = vs.map W1) ↔ wayS ws = wayS vs := ⟨fun z => by rw [W2_inj (show W2 ws = W2 vs by unfold W2; rw [z])], fun z => by rw [wayS_inj z]⟩
    simp [this]
theorem TK.cut {kd : Int} {d : D} (h : TK kd d) : ∃ o, dCut none (some (-1)) [d] = some (o, 1) ∧ TK kd o := by
  rcases h with ⟨rfl, xs, rfl, h1, h2⟩ | ⟨rfl, hs, rfl, h1⟩ | ⟨rfl, ws, rfl, h1⟩
  · exact ⟨_, by unfold I0; rw [dCut_lst, cut_map], .inl ⟨rfl, _, rfl, Nat.le_trans (by rw [List.length_take, List.length_drop]; omega) h1, fun x hx => h2 x (List.mem_of_mem_drop (List.mem_of_mem_take hx))⟩⟩
  · exact ⟨_, by unfold P0; rw [dCut_lst, cut_map], .inr (.inl ⟨rfl, _, rfl, Nat.le_trans (by rw [List.length_take, List.length_drop]; omega) h1.1, fun x hx => h1.2 x (List.mem_of_mem_drop (List.mem_of_mem_take hx))⟩)⟩
  · exact ⟨_, by unfold W2; rw [dCut_lst, cut_map], .inr (.inr ⟨rfl, _, rfl, Nat.le_trans (by rw [List.length_take, List.length_drop]; omega) h1.1, fun x hx => h1.2 x (List.mem_of_mem_drop (List.mem_of_mem_take hx))⟩)⟩
abbrev Lf (ns : List Int) (kd : Int) (x2 x3 x4 x5 x6 x7 x8 x9 : Option (D × Nat)) : En := [some (.kls (ns.map D.int), 0), some (.int kd, 0), x2, x3, x4, x5, x6, x7, x8, x9, none]
theorem copy_ok {ns : List Int} {kd : Int} {d : D} {k : Nat} {x2 x3 x5 x6 x7 x8 x9 : Option (D × Nat)} (h : Thing kd d k) : c_law_0 (Lf ns kd x2 x3 (some (d, k)) x5 x6 x7 x8 x9) = some (.ok (.val d 1) (Lf ns kd x2 x3 (some (d, 0)) x5 x6 x7 x8 x9)) := by
  rcases h with ⟨rfl, rfl, xs, rfl, h1, h2⟩ | ⟨rfl, rfl, hs, rfl, h1⟩ | ⟨rfl, rfl, ws, rfl, h1⟩
  · unfold c_law_0
    rw [mLc_of xs D.int D.int (e0 := Lf ns 0 x2 x3 (some (I0 xs, 0)) x5 x6 x7 x8 x9) (e1 := Lf ns 0 x2 x3 (some (I0 xs, 0)) x5 x6 x7 x8 x9) (by simp [I0]) (by unfold sizeLine; omega) rfl fun x hx => ?_]
    · simp [I0]
    · simp [lcStep, M.bind]
  · unfold c_law_0
    rw [mLc_of hs I0 I0 (e0 := Lf ns 1 x2 x3 (some (P0 hs, 0)) x5 x6 x7 x8 x9) (e1 := Lf ns 1 x2 x3 (some (P0 hs, 0)) x5 x6 x7 x8 x9) (by simp [P0]) (by have := h1.1; unfold sizeLine; omega) rfl fun x hx => ?_]
    · simp [P0]
    · simp [lcStep, M.bind, I0]
  · unfold c_law_0
    rw [mLc_of ws W1 W1 (e0 := Lf ns 2 x2 x3 (some (W2 ws, 0)) x5 x6 x7 x8 x9) (e1 := Lf ns 2 x2 x3 (some (W2 ws, 0)) x5 x6 x7 x8 x9) (by simp [W2]) (by have := h1.1; unfold sizeLine; omega) rfl fun x hx => ?_]
    · simp [W2]
    · simp [lcStep, M.bind]
theorem lim_ok {r : Int} (h0 : 0 ≤ r) (h1 : r < 4) : ∃ lim : Int, atI [D.int 20, D.int 20, D.int 20, D.int 60] r = some (D.int lim) ∧ 0 ≤ lim ∧ lim ≤ 60 := by
  rcases (show r = 0 ∨ r = 1 ∨ r = 2 ∨ r = 3 by omega) with rfl | rfl | rfl | rfl
  · exact ⟨20, rfl, by decide, by decide⟩
  · exact ⟨20, rfl, by decide, by decide⟩
  · exact ⟨20, rfl, by decide, by decide⟩
  · exact ⟨60, rfl, by decide, by decide⟩
theorem ev_callT (i k : Nat) (G : List D → Option Ro) (l r : List Op) (m : M Op) (e : En) : mCallT i k G l r m e = if (l.all (okS e) && r.all (okS e)) = true then
    (match m e with
    | some (.ok (.val dI k') e1) => if k' = k then
        (match mCall1 i k G (fun e => some (.ok (l ++ .sl e1.length :: r) e)) (e1 ++ [some (dI, k)]) with
        | some (.ok (.val d kd) e2) => some (.ok (.val d kd) e2.dropLast)
        | _ => none)
      else none
    | _ => none)
  else none := rfl
theorem seq_nx {m n : M Fl} {e e' : En} (h : m e = some (.ok .nx e')) : mSeq m n e = n e' := by rw [ev_seq, h]
theorem turn_ok {ns : List Int} {kd : Nat} {x2 x3 x4 x5 x6 x7 x8 x9 : Option (D × Nat)} (h3 : kd < 3) :
    ∃ y2 y3 y4 y5 y6 y7 y8 y9, b_law_0 (Lf ns kd x2 x3 x4 x5 x6 x7 x8 x9) = some (.ok .nx (Lf ns kd y2 y3 y4 y5 y6 y7 y8 y9)) := by
  obtain ⟨s, e1, hs⟩ := source_ok ns kd (by omega)
  obtain ⟨q, s1, e2, q0, q1, hs1⟩ := draw_ok hs (by omega) (many := 3) (by omega) (by decide)
  obtain ⟨r, s2, e3, r0, r1, hs2⟩ := draw_ok hs1 (by omega) (many := 4) (by omega) (by decide)
  obtain ⟨lim, a1, l0, l1⟩ := lim_ok r0 r1
  have hk : ((kd : Nat) : Int) = 0 ∨ ((kd : Nat) : Int) = 1 ∨ ((kd : Nat) : Int) = 2 := by omega
  obtain ⟨d, k, s3, e4, hd, hs3⟩ := thing_ok (ns := ns) hs2 (by omega) l0 l1 hk
  obtain ⟨t, e5, ht⟩ := source_ok ns (kd + 3) (by omega)
  have e5 : g_law_source [.kls (ns.map D.int), .int ((kd : Int) + 3)] = some (.ret t 1 [.kls (ns.map D.int), .int ((kd : Int) + 3)]) := by simpa using e5
  obtain ⟨d2, k2, t2, e6, hd2, hs4⟩ := thing_ok (ns := ns) (lim := 20) ht (by omega) (by omega) (by omega) hk
  have g1 := src_reg hs
  have g2 := src_reg hs1
  have g3 := src_reg hs2
  have g4 := src_reg hs3
  have g5 := src_reg ht
  obtain ⟨tk, _, rg⟩ := hd.tk
  obtain ⟨tk2, k22, rg2⟩ := hd2.tk
  have g6 := src_reg hs4
  obtain ⟨d3, e7, tk3⟩ := tk.cut
  generalize hx : ((kd : Nat) : Int) = kk at *
  obtain ⟨ot, ko, o, ho, e8⟩ : ∃ (ot : D) (ko : Nat) (o : D), TK kk o ∧ ∀ rest : M Fl, (mSeq (mIf (mT (mF false dEq (mCons (mV 3) (mCons (mC (.int 1)) mNil)))) (mSeq (mAsg 5 (mCallT 1 1 g_law_thing [.sl 0] [.sl 1, .val (.int 20) 0] (mCall g_law_source (mCons (mV 0) (mCons (mF true dAdd (mCons (mV 1) (mCons (mC (.int 3)) mNil))) mNil)))))
  mNx) mNx)
  (mSeq (mIf (mT (mF false dEq (mCons (mV 3) (mCons (mC (.int 2)) mNil)))) (mSeq (mAsg 5 (mSl (mV 5) mPn (mPt (mF true dNeg (mCons (mC (.int 1)) mNil)))))
  mNx) mNx) rest)) (Lf ns kk (some (s3, 1)) (some (.int q, 0)) (some (d, 0)) (some (d, 1)) x6 x7 x8 x9) = rest (Lf ns kk (some (s3, 1)) (some (.int q, 0)) (some (d, 0)) (some (o, ko)) x6 x7 x8 x9) := by
    rcases (show q = 0 ∨ q = 1 ∨ q = 2 by omega) with rfl | rfl | rfl
    · exact ⟨.non, 1, d, tk, fun rest => by simp⟩
    · exact ⟨.non, k2, d2, tk2, fun rest => by simp [ev_callT, okS, e5, g5, e6, rg2, g6]⟩
    · exact ⟨.non, 1, d3, tk3, fun rest => by simp [e7]⟩
  obtain ⟨t1, ds, k1, K1⟩ := tk.kd
  obtain ⟨u1, us, l1', K2⟩ := ho.kd
  have he := tk.eq ho K1 K2
  have hcopy := copy_ok (ns := ns) (x2 := some (s3, 1)) (x3 := some (.int q, 0)) (x5 := x5) (x6 := x6) (x7 := x7) (x8 := x8) (x9 := x9) hd
  unfold b_law_0
  rw [seq_nx (e' := Lf ns kk (some (s, 1)) x3 x4 x5 x6 x7 x8 x9) (by simp [e1, g1]),
    seq_nx (e' := Lf ns kk (some (s1, 1)) (some (.int q, 0)) x4 x5 x6 x7 x8 x9) (by simp [e2, g2]),
    seq_nx (e' := Lf ns kk (some (s3, 1)) (some (.int q, 0)) (some (d, k)) x5 x6 x7 x8 x9) (by simp [e3, g3, a1, e4, g4, rg, mFz, M.bind, sizeLine]),
    seq_nx (e' := Lf ns kk (some (s3, 1)) (some (.int q, 0)) (some (d, 0)) (some (d, 1)) x6 x7 x8 x9) (by simp [hcopy]), e8]
  have hl := K1.len
  have hL := K1.isL
  have c1 := K1.text
  have c2 := K2.text
  have c3 := K1.back
  have c4 := K2.back
  have c5 := K1.same
  have c6 := K2.same
  have r1' := K1.regk
  have r2' := K2.regk
  have hn : ds.length < sizeLine := by unfold sizeLine; omega
  rw [seq_nx (e' := Lf ns kk (some (s3, 1)) (some (.int q, 0)) (some (d, 0)) (some (o, ko)) (some (.str t1, 0)) x7 x8 x9) (by simp [c1]),
    seq_nx (e' := Lf ns kk (some (s3, 1)) (some (.int q, 0)) (some (d, 0)) (some (o, ko)) (some (.str t1, 0)) (some (.str u1, 0)) x8 x9) (by simp [c2]),
    seq_nx (e' := Lf ns kk (some (s3, 1)) (some (.int q, 0)) (some (d, 0)) (some (o, ko)) (some (.str t1, 0)) (some (.str u1, 0)) x8 x9) (by simp [isaD]),
    seq_nx (e' := Lf ns kk (some (s3, 1)) (some (.int q, 0)) (some (d, 0)) (some (o, ko)) (some (.str t1, 0)) (some (.str u1, 0)) x8 x9) (by simp [he]),
    seq_nx (e' := Lf ns kk (some (s3, 1)) (some (.int q, 0)) (some (d, 0)) (some (o, ko)) (some (.str t1, 0)) (some (.str u1, 0)) (some (d, k1)) x9) (by simp [c3, r1']),
    seq_nx (e' := Lf ns kk (some (s3, 1)) (some (.int q, 0)) (some (d, 0)) (some (o, ko)) (some (.str t1, 0)) (some (.str u1, 0)) (some (d, k1)) x9) (by simp [c4, c5, c6, r2'])]
  have low1 : ∀ (fs : List D) (kz : Nat) (y9 : Option (D × Nat)), (kz = 1 ∨ kz = 2) → lowE (Lf ns kk (some (s3, 1)) (some (.int q, 0)) (some (d, 0)) (some (o, ko)) (some (.str t1, 0)) (some (.str u1, 0)) (some (.lst fs, kz)) y9) 8 = Lf ns kk (some (s3, 1)) (some (.int q, 0)) (some (d, 0)) (some (o, ko)) (some (.str t1, 0)) (some (.str u1, 0)) (some (.lst fs, 1)) y9 := fun fs kz y9 hz => by
    rcases hz with rfl | rfl <;> simp [lowE]
  by_cases hcase : kk = 1 ∧ ds ≠ []
  · obtain ⟨rfl, hne⟩ := hcase
    obtain ⟨rfl, h0, rest, rfl, hr, h0l⟩ := K1.two rfl hne
    subst hL
    have h0n : h0.length < sizeLine := by unfold sizeLine; omega
    have q1 : eqD (.lst (I0 h0 :: rest.map I0)) (.lst []) = some false := by
      have := emp_P0 (h0 :: rest)
      simpa [P0] using this
    have q2 : ∀ a b c d e f g h i, mAl 8 9 0 (fun _ => some (D.int 4)) [a, b, c, d, e, f, g, h, some (.lst (I0 h0 :: rest.map I0), 2), i, none] = some (.ok .nx [a, b, c, d, e, f, g, h, some (.lst (I0 (h0 ++ [4]) :: rest.map I0), 2), none, none]) := fun a b c d e f g h i => by
      have : ixN (rest.length + 1) 0 = some 0 := by rw [ixN_pos (by decide) (by omega)]; rfl
      simp [mAl, this, I0, h0n]
    have q3 : ∀ z : D, dCut (some 1) none [.lst (z :: rest.map I0)] = some (.lst (rest.map I0), 1) := fun z => by
      rw [dCut_lst]
      simp [Rf.cutD, HT.sIx]
      exact List.take_of_length_le (by simp)
    have q4 : g_law_same 6 [.lst (rest.map I0), .lst (rest.map I0)] = some (.ret (.bl true) 0 [.lst (rest.map I0), .lst (rest.map I0)]) := same_P0 (n := 3) hr
    have hn2 : rest.length + 1 < sizeLine := by simpa using hn
    refine ⟨some (s3, 1), some (.int q, 0), some (.lst (I0 h0 :: rest.map I0), 0), some (o, ko), some (.str t1, 0), some (.str u1, 0), some (.lst (I0 (h0 ++ [4]) :: rest.map I0 ++ [.non]), 1), none, ?_⟩
    rw [seq_nx (e' := Lf ns 1 (some (s3, 1)) (some (.int q, 0)) (some (.lst (I0 h0 :: rest.map I0), 0)) (some (o, ko)) (some (.str t1, 0)) (some (.str u1, 0)) (some (.lst (I0 (h0 ++ [4]) :: rest.map I0), 1)) none) (by
      simp [q1, mFz, M.bind, q2, mLw, low1 _ 2 none (.inr rfl), q3, q4])]
    unfold mLw
    rw [low1 _ 1 none (.inl rfl)]
    simp [ev_mut, mFz, M.bind, fAppend, hn2, c3, r1', c5]
  · refine ⟨some (s3, 1), some (.int q, 0), some (d, 0), some (o, ko), some (.str t1, 0), some (.str u1, 0), some (.lst (ds ++ [.non]), 1), x9, ?_⟩
    rw [seq_nx (e' := Lf ns kk (some (s3, 1)) (some (.int q, 0)) (some (d, 0)) (some (o, ko)) (some (.str t1, 0)) (some (.str u1, 0)) (some (d, k1)) x9) (by
      by_cases h1 : kk = 1
      · have hds : ds = [] := by
          cases ds with
          | nil => rfl
          | cons _ _ => exact absurd ⟨h1, by simp⟩ hcase
        subst hds
        subst hL
        have : eqD (.lst []) (.lst []) = some true := by rw [eqD_lst (by simp) (by simp)]; rfl
        simp [h1, mFz, M.bind, this]
      · simp [h1])]
    subst hL
    unfold mLw
    rw [low1 _ k1 x9 K1.k12]
    simp [ev_mut, mFz, M.bind, fAppend, hn, c3, r1', c5]
theorem law_true (ns : List Int) (hl : ns.length ≤ 63) : ∃ k io, g_law [.kls (ns.map D.int)] = some (.ret (.bl true) k io) := by
  obtain ⟨e', h1, x1, x2, x3, x4, x5, x6, x7, x8, x9, h2⟩ := mFor_inv (mi := iR (mCons (mC (.int 3)) mNil)) (t := gN 1) (mb := b_law_0) (e := [some (.kls (ns.map D.int), 0), none, none, none, none, none, none, none, none, none, none]) (e0 := [some (.kls (ns.map D.int), 0), none, none, none, none, none, none, none, none, none, none]) (ds := rngD 0 3)
    (fun i e => ∃ x1 x2 x3 x4 x5 x6 x7 x8 x9, e = [some (.kls (ns.map D.int), 0), x1, x2, x3, x4, x5, x6, x7, x8, x9, none]) (by simp) ⟨_, _, _, _, _, _, _, _, _, rfl⟩ (by
      intro i d e hd hI
      obtain ⟨hi, rfl⟩ := rngD_get hd
      obtain ⟨x1, x2, x3, x4, x5, x6, x7, x8, x9, rfl⟩ := hI
      obtain ⟨y2, y3, y4, y5, y6, y7, y8, y9, h⟩ := turn_ok (ns := ns) (kd := i) (x2 := x2) (x3 := x3) (x4 := x4) (x5 := x5) (x6 := x6) (x7 := x7) (x8 := x8) (x9 := x9) hi
      exact ⟨Lf ns i y2 y3 y4 y5 y6 y7 y8 y9, by simp [fStep, h], _, _, _, _, _, _, _, _, _, rfl⟩)
  subst h2
  refine ⟨0, [.kls (ns.map D.int)], run_ret (e := [some (.kls (ns.map D.int), 0), x1, x2, x3, x4, x5, x6, x7, x8, x9, none]) ?_ rfl⟩
  unfold m_law l_law_0
  rw [seq_nx (e' := [some (.kls (ns.map D.int), 0), x1, x2, x3, x4, x5, x6, x7, x8, x9, none]) (by simpa using h1)]
  simp
end NS
open PySem PySem.W PyProof.Rows
set_option maxHeartbeats 0 in
theorem PySem.Challenge.cw_handpiles_k75_whole_texts_read_back_holds : PySem.Challenge.rw_handpiles_k75_whole_texts_read_back.Holds := by
  w_on; o_law; k_head; (case hw => w_witness2)
  k_fill
  refine L2.walk_ofK (l := PySem.Challenge.rw_handpiles_k75_whole_texts_read_back) (n := 63) (k := 8) (x := "script") (CX := L2.CX0) (sp := fun K => Rf.spOf K [0] NS.g_law) rfl (by decide) rfl ⟨rfl, by decide, by decide⟩ (fun w h Y => PySem.W.kIn_of Y) ?F ?S (fun _ _ _ _ h => h)
  case F =>
    intro w mg fa h KX G hmg
    refine' NS.all_mk KX G hmg ?a0 ?l0 ?c0 ?k0 ?a1 ?l1 ?c1 ?k1 ?a2 ?l2 ?c2 ?k2 ?a3 ?l3 ?c3 ?k3 ?a4 ?l4 ?c4 ?k4 ?a5 ?l5 ?c5 ?k5 ?a6 ?l6 ?c6 ?k6 ?a7 ?l7 ?c7 ?k7 ?a8 ?l8 ?c8 ?k8 ?a9 ?l9 ?c9 ?k9 ?a10 ?l10 ?c10 ?k10 ?a11 ?l11 ?c11 ?k11 ?a12 ?l12 ?c12 ?k12 ?a13 ?l13 ?c13 ?k13 ?a14 ?l14 ?c14 ?k14 ?a15 ?l15 ?c15 ?k15 ?a16 ?l16 ?c16 ?k16 ?z_abs ?z_all ?z_bool ?z_int ?z_isinstance ?z_len ?z_list ?z_range ?z_str ?z_tuple ?z_zip ?c_DIGITS ?c_MOST_DIGITS
    (case a0 => k_is); (case l0 => k_is); (case c0 => k_is); (case k0 => k_is); (case a1 => k_is); (case l1 => k_is); (case c1 => k_is); (case k1 => k_is); (case a2 => k_is); (case l2 => k_is); (case c2 => k_is); (case k2 => k_is); (case a3 => k_is); (case l3 => k_is); (case c3 => k_is); (case k3 => k_is); (case a4 => k_is); (case l4 => k_is); (case c4 => k_is); (case k4 => k_is); (case a5 => k_is); (case l5 => k_is); (case c5 => k_is); (case k5 => k_is); (case a6 => k_is); (case l6 => k_is); (case c6 => k_is); (case k6 => k_is); (case a7 => k_is); (case l7 => k_is); (case c7 => k_is); (case k7 => k_is); (case a8 => k_is); (case l8 => k_is); (case c8 => k_is); (case k8 => k_is); (case a9 => k_is); (case l9 => k_is); (case c9 => k_is); (case k9 => k_is); (case a10 => k_is); (case l10 => k_is); (case c10 => k_is); (case k10 => k_is); (case a11 => k_is); (case l11 => k_is); (case c11 => k_is); (case k11 => k_is); (case a12 => k_is); (case l12 => k_is); (case c12 => k_is); (case k12 => k_is); (case a13 => k_is); (case l13 => k_is); (case c13 => k_is); (case k13 => k_is); (case a14 => k_is); (case l14 => k_is); (case c14 => k_is); (case k14 => k_is); (case a15 => k_is); (case l15 => k_is); (case c15 => k_is); (case k15 => k_is); (case a16 => k_is); (case l16 => k_is); (case c16 => k_is); (case k16 => k_is); (case z_abs => k_is); (case z_all => k_is); (case z_bool => k_is); (case z_int => k_is); (case z_isinstance => k_is); (case z_len => k_is); (case z_list => k_is); (case z_range => k_is); (case z_str => k_is); (case z_tuple => k_is); (case z_zip => k_is); (case c_DIGITS => k_is); (case c_MOST_DIGITS => k_is)
  case S =>
    intro K H a ns hl hO hS
    exact Rf.law_end (NS.law_true ns hl) hS
