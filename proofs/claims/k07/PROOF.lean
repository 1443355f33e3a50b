import PyProof.Rows.All
import Wide.All
import OpenK.AllK
import Wide.FinOn
import HandS.ForMost
import HandS.ForExc
import HandS.Wide
import HandS.WideBits
import HandS.IsInst
import HandS.Conv
import HandS.TupAny
import HandS.Head0
import HandS.Head1
import HandS.Head2
import HandS.HeadEnd
import HandS.HeadHook1
import HandS.HeadHook2
import HandS.RevRange
import HandS.Flow
import HandS.Comp
import HandS.Style
import HandS.Iter
import PySem.Challenge.RW_slackfigures_k07_whole_good_figures_serv
set_option Elab.async false
set_option linter.all false
set_option maxRecDepth 100000
namespace Z
open PySem L2
abbrev D := PyData
abbrev DS := List (Option D)
abbrev Fg := PySem.W.Frag
/-- how a slot's thing is held: read alone; a list of one's own; a parameter that is one's own for the call -/
inductive Kd where
  | sh : Kd
  | ls : Kd → Kd
  | pm : Kd → Kd
deriving DecidableEq
inductive All3 {α β γ : Type} (P : α → β → γ → Prop) : List α → List β → List γ → Prop
  | nil : All3 P [] [] []
  | cons {a b c as bs cs} : P a b c → All3 P as bs cs → All3 P (a :: as) (b :: bs) (c :: cs)
def Ow (K : Fg) (F H : Hp) : Kd → V → D → List Addr → Prop
  | .sh, v, d, fp => fp = [] ∧ Dp K F v d
  | .ls k, v, d, fp => ∃ p xs ds fs, v = .ref p ∧ d = .list ds ∧ H p = some (.lst xs) ∧ fp = p :: fs.flatten ∧ All3 (Ow K F H k) xs ds fs
  | .pm k, v, d, fp => Ow K F H k v d fp
theorem All3.imp {α β γ : Type} {P Q : α → β → γ → Prop} : ∀ {xs ys zs}, All3 P xs ys zs → (∀ a b c, c ∈ zs → P a b c → Q a b c) → All3 Q xs ys zs
  | _, _, _, .nil, _ => .nil
  | _, _, _, .cons h t, f => .cons (f _ _ _ (List.mem_cons_self) h) (t.imp fun a b c hc => f a b c (List.mem_cons_of_mem _ hc))
theorem All3.len {α β γ : Type} {P : α → β → γ → Prop} : ∀ {xs ys zs}, All3 P xs ys zs → xs.length = ys.length ∧ zs.length = ys.length
  | _, _, _, .nil => ⟨rfl, rfl⟩
  | _, _, _, .cons _ t => by
    have h := t.len
    simp only [List.length_cons]
    omega
theorem sqL_mono {K : Fg} {H H' : Hp} (e : Same H H') {a : Addr} {xs : List V} (h : SqL K H a xs) : SqL K H' a xs := e.seq h
theorem sqT_mono {K : Fg} {H H' : Hp} (e : Same H H') {a : Addr} {xs : List V} (h : SqT K H a xs) : SqT K H' a xs := by
  rcases h with (h | ⟨o, h⟩) | h
  · exact .inl (.inl (e _ _ h))
  · exact .inl (.inr ⟨o, e _ _ h⟩)
  · exact .inr h
mutual
theorem dp_mono {K : Fg} {H H' : Hp} (e : Same H H') : ∀ {v : V} {d : D}, Dp K H v d → Dp K H' v d
  | _, _, .non => .non
  | _, _, .bl b => .bl b
  | _, _, .int i => .int i
  | _, _, .str x => .str x
  | _, _, .lst h r => .lst (sqL_mono e h) (dpa_mono e r)
  | _, _, .tup h r => .tup (sqT_mono e h) (dpa_mono e r)
theorem dpa_mono {K : Fg} {H H' : Hp} (e : Same H H') : ∀ {vs : List V} {ds : List D}, DpAll K H vs ds → DpAll K H' vs ds
  | _, _, .nil => .nil
  | _, _, .cons h r => .cons (dp_mono e h) (dpa_mono e r)
end
theorem ow_mono {K : Fg} {F F' H H' : Hp} (e : Same F F') : ∀ {k : Kd} {v : V} {d : D} {fp : List Addr}, Ow K F H k v d fp → (∀ q ∈ fp, H' q = H q) → Ow K F' H' k v d fp := by
  intro k
  induction k with
  | sh => intro v d fp h _; exact ⟨h.1, dp_mono e h.2⟩
  | ls k ih =>
    intro v d fp h g
    obtain ⟨p, xs, ds, fs, rfl, rfl, hp, rfl, al⟩ := h
    refine ⟨p, xs, ds, fs, rfl, rfl, by rw [g p List.mem_cons_self]; exact hp, rfl, al.imp fun a b c hc q => ih q fun r hr => g r (List.mem_cons_of_mem _ (List.mem_flatten.mpr ⟨c, hc, hr⟩))⟩
  | pm k ih => intro v d fp h g; exact ih h g
def isPm : Option Kd → Bool
  | some (.pm _) => true
  | _ => false
/-- the entry of a def: what is read there, its whole heap, the parameters' own things -/
structure Ctx where
  F0 : Hp
  H0 : Hp
  own : Addr → Prop
  ps : List Kd
  rk : Kd
  arg : Nat → V
structure Rel (K : Fg) (c : Ctx) (O : List Kd) (F H : Hp) (σ : St) (fps : Nat → List Addr) (ds : DS) : Prop where
  sub : Same F H
  base : Same c.F0 F
  keep : ∀ b o, c.H0 b = some o → ¬ c.own b → H b = some o
  live : ∀ b, H b = none → c.H0 b = none
  new : ∀ b o, F b = some o → c.F0 b = some o ∨ c.H0 b = none
  slots : ∀ i d, ds[i]? = some (some d) → ∃ v, σ[i]? = some (some v) ∧ Ow K F H (O.getD i .sh) v d (fps i)
  off : ∀ i q, q ∈ fps i → F q = none ∧ H q ≠ none ∧ (c.H0 q = none ∨ (c.own q ∧ isPm O[i]? = true))
  nd : ∀ i, (fps i).Nodup
  dj : ∀ i j, i ≠ j → ∀ q, q ∈ fps i → q ∉ fps j
  par : ∀ i k, c.ps[i]? = some (.pm k) → O[i]? = some (.pm k) ∧ σ[i]? = some (some (c.arg i))
  len : σ.length = ds.length
inductive R (α : Type) where
  | ok (a : α) (s : DS)
  | no
abbrev M (α : Type) := DS → R α
/-- statements' ends -/
inductive RS where
  | nx (s : DS)
  | rt (d : D) (s : DS)
  | bk (s : DS)
  | ct (s : DS)
  | no
abbrev MS := DS → RS
structure DE (K : Fg) (c : Ctx) (O : List Kd) (t : TE) (m : M D) : Prop where
  run : ∀ {F H : Hp} {σ : St} {fps : Nat → List Addr} {ds ds' : DS} {d : D}, Rel K c O F H σ fps ds → m ds = .ok d ds' → ∀ Q : VK,
    (∀ F' H' fps' v, Same F F' → Rel K c O F' H' σ fps' ds' → Dp K F' v d → Q v H') → t σ H Q
structure DT (K : Fg) (c : Ctx) (O : List Kd) (t : TT) (m : M Bool) : Prop where
  run : ∀ {F H : Hp} {σ : St} {fps : Nat → List Addr} {ds ds' : DS} {b : Bool}, Rel K c O F H σ fps ds → m ds = .ok b ds' → ∀ Q : Bool → Hp → Prop,
    (∀ F' H' fps', Same F F' → Rel K c O F' H' σ fps' ds' → Q b H') → t σ H Q
structure DA (K : Fg) (c : Ctx) (O : List Kd) (t : TA) (m : M (List D)) : Prop where
  run : ∀ {F H : Hp} {σ : St} {fps : Nat → List Addr} {ds ds' : DS} {es : List D}, Rel K c O F H σ fps ds → m ds = .ok es ds' → ∀ Q : List V → Hp → Prop,
    (∀ F' H' fps' vs, Same F F' → Rel K c O F' H' σ fps' ds' → DpAll K F' vs es → Q vs H') → t σ H Q
/-- an expression that makes a thing of one's own -/
structure DO (K : Fg) (c : Ctx) (O : List Kd) (k : Kd) (t : TE) (m : M D) : Prop where
  run : ∀ {F H : Hp} {σ : St} {fps : Nat → List Addr} {ds ds' : DS} {d : D}, Rel K c O F H σ fps ds → m ds = .ok d ds' → ∀ Q : VK,
    (∀ F' H' fps' v fpv, Same F F' → Rel K c O F' H' σ fps' ds' → Ow K F' H' k v d fpv → (∀ q ∈ fpv, F' q = none ∧ H' q ≠ none ∧ c.H0 q = none ∧ ∀ i, q ∉ fps' i) → fpv.Nodup → Q v H') → t σ H Q
def Post (K : Fg) (c : Ctx) (Ob O' : List Kd) (F : Hp) (E : Ends) : RS → Prop
  | .nx ds' => ∀ F' H' σ' fps', Same F F' → Rel K c O' F' H' σ' fps' ds' → E.nx σ' H'
  | .bk ds' => ∀ F' H' σ' fps', Same F F' → Rel K c Ob F' H' σ' fps' ds' → E.bk σ' H'
  | .ct ds' => ∀ F' H' σ' fps', Same F F' → Rel K c Ob F' H' σ' fps' ds' → E.ct σ' H'
  | .rt d ds' => ∀ F' H' σ' fps' O'' v fpv, Same F F' → Rel K c O'' F' H' σ' fps' ds' → Ow K F' H' c.rk v d fpv → (∀ q ∈ fpv, F' q = none ∧ H' q ≠ none ∧ c.H0 q = none ∧ ∀ i, c.ps[i]?.isSome = true → q ∉ fps' i) → fpv.Nodup → E.rt v H'
  | .no => False
structure DC (K : Fg) (c : Ctx) (Ob O : List Kd) (t : TS) (m : MS) (O' : List Kd) : Prop where
  run : ∀ {F H : Hp} {σ : St} {fps : Nat → List Addr} {ds : DS}, Rel K c O F H σ fps ds → ∀ E : Ends, Post K c Ob O' F E (m ds) → t E σ H
end Z
set_option Elab.async false
set_option linter.all false
set_option maxRecDepth 100000
namespace Z
open PySem L2
/-! ### moves of the relation -/
section
variable {K : Fg} {c : Ctx} {O : List Kd} {F H : Hp} {σ : St} {fps : Nat → List Addr} {ds : DS}
theorem Rel.fresh (r : Rel K c O F H σ fps ds) {p : Addr} (h : H p = none) : F p = none ∧ c.H0 p = none ∧ ∀ i, p ∉ fps i :=
  ⟨r.sub.free h, r.live p h, fun i hi => (r.off i p hi).2.1 h⟩
theorem same_upd {F : Hp} {p : Addr} {o : HO} (h : F p = none) : Same F (upd F p o) := fun b u e => by rw [upd_ne (ne_of_none e h)]; exact e
/-- a new thing, to be read from now on -/
theorem Rel.alloc (r : Rel K c O F H σ fps ds) {p : Addr} (h : H p = none) (o : HO) : Rel K c O (upd F p o) (upd H p o) σ fps ds := by
  obtain ⟨hF, h0, hq⟩ := r.fresh h
  have sF : Same F (upd F p o) := same_upd hF
  refine ⟨fun b u e => ?_, r.base.trans sF, fun b u e n => ?_, fun b e => ?_, fun b u e => ?_, fun i d e => ?_, fun i q hqi => ?_, r.nd, r.dj, r.par, r.len⟩
  · by_cases hb : b = p
    · subst hb; rw [upd_same] at e ⊢; exact e
    · rw [upd_ne hb] at e ⊢; exact r.sub b u e
  · have hb : b ≠ p := fun z => by subst z; rw [h0] at e; cases e
    rw [upd_ne hb]; exact r.keep b u e n
  · by_cases hb : b = p
    · subst hb; rw [upd_same] at e; cases e
    · rw [upd_ne hb] at e; exact r.live b e
  · by_cases hb : b = p
    · subst hb; exact .inr h0
    · rw [upd_ne hb] at e; exact r.new b u e
  · obtain ⟨v, hv, ho⟩ := r.slots i d e
    exact ⟨v, hv, ow_mono sF ho fun q hq' => upd_ne fun z => by subst z; exact hq i hq'⟩
  · obtain ⟨a, b, cc⟩ := r.off i q hqi
    have hb : q ≠ p := fun z => by subst z; exact hq i hqi
    rw [upd_ne hb, upd_ne hb]; exact ⟨a, b, cc⟩
/-- a new thing of one's own -/
theorem Rel.allocO (r : Rel K c O F H σ fps ds) {p : Addr} (h : H p = none) (o : HO) : Rel K c O F (upd H p o) σ fps ds := by
  obtain ⟨hF, h0, hq⟩ := r.fresh h
  refine ⟨fun b u e => ?_, r.base, fun b u e n => ?_, fun b e => ?_, r.new, fun i d e => ?_, fun i q hqi => ?_, r.nd, r.dj, r.par, r.len⟩
  · rw [upd_ne (ne_of_none e hF)]; exact r.sub b u e
  · have hb : b ≠ p := fun z => by subst z; rw [h0] at e; cases e
    rw [upd_ne hb]; exact r.keep b u e n
  · by_cases hb : b = p
    · subst hb; rw [upd_same] at e; cases e
    · rw [upd_ne hb] at e; exact r.live b e
  · obtain ⟨v, hv, ho⟩ := r.slots i d e
    exact ⟨v, hv, ow_mono (Same.refl _) ho fun q hq' => upd_ne fun z => by subst z; exact hq i hq'⟩
  · obtain ⟨a, b, cc⟩ := r.off i q hqi
    have hb : q ≠ p := fun z => by subst z; exact hq i hqi
    rw [upd_ne hb]; exact ⟨a, b, cc⟩
/-- a slot's thing -/
theorem Rel.get (r : Rel K c O F H σ fps ds) {i : Nat} {d : D} (h : ds[i]? = some (some d)) : ∃ v, σ[i]? = some (some v) ∧ Ow K F H (O.getD i .sh) v d (fps i) := r.slots i d h
theorem getD_set_ne {O : List Kd} {i j : Nat} {k : Kd} (h : j ≠ i) : (O.set i k).getD j .sh = O.getD j .sh := by
  simp only [List.getD_eq_getElem?_getD]
  rw [List.getElem?_set_ne (Ne.symm h)]
theorem getD_set_eq {O : List Kd} {i : Nat} {k : Kd} (h : i < O.length) : (O.set i k).getD i .sh = k := by
  simp only [List.getD_eq_getElem?_getD]
  rw [List.getElem?_set_self h]; rfl
/-- a slot is given a thing -/
theorem Rel.put (r : Rel K c O F H σ fps ds) {i : Nat} {k : Kd} {v : V} {d : D} {fpv : List Addr} (hi : i < O.length) (hp : isPm O[i]? = false) (ho : Ow K F H k v d fpv)
    (hf : ∀ q ∈ fpv, F q = none ∧ H q ≠ none ∧ c.H0 q = none ∧ ∀ j, j ≠ i → q ∉ fps j) (nd : fpv.Nodup) :
    Rel K c (O.set i k) F H (σ.set i (some v)) (fun j => if j = i then fpv else fps j) (ds.set i (some d)) := by
  have hne : ∀ j k', c.ps[j]? = some (.pm k') → j ≠ i := fun j k' h z => by
    subst z
    rw [(r.par j k' h).1] at hp
    exact absurd hp (by simp [isPm])
  refine ⟨r.sub, r.base, r.keep, r.live, r.new, fun j e hj => ?_, fun j q hq => ?_, fun j => ?_, fun j l hjl q hq hq' => ?_, fun j k' h => ?_, by rw [List.length_set, List.length_set]; exact r.len⟩
  · by_cases z : j = i
    · subst z
      have hl : j < ds.length := by
        cases Nat.lt_or_ge j ds.length with
        | inl h => exact h
        | inr h => rw [List.getElem?_eq_none (by rw [List.length_set]; exact h)] at hj; cases hj
      rw [List.getElem?_set_self hl] at hj
      have e' : e = d := (Option.some.inj (Option.some.inj hj)).symm
      subst e'
      refine ⟨v, by rw [List.getElem?_set_self (by rw [r.len]; exact hl)], ?_⟩
      rw [getD_set_eq hi]
      simp only [if_pos]
      exact ho
    · rw [List.getElem?_set_ne (Ne.symm z)] at hj
      obtain ⟨u, hu, w⟩ := r.slots j e hj
      refine ⟨u, by rw [List.getElem?_set_ne (Ne.symm z)]; exact hu, ?_⟩
      rw [getD_set_ne z]
      simp only [if_neg z]
      exact w
  · by_cases z : j = i
    · simp only [z, if_pos] at hq
      obtain ⟨a, b, c', _⟩ := hf q hq
      exact ⟨a, b, .inl c'⟩
    · simp only [if_neg z] at hq
      rw [List.getElem?_set_ne (Ne.symm z)]
      exact r.off j q hq
  · by_cases z : j = i
    · simp only [z, if_pos]; exact nd
    · simp only [if_neg z]; exact r.nd j
  · by_cases z : j = i
    · by_cases z' : l = i
      · exact hjl (z.trans z'.symm)
      · simp only [z, if_pos] at hq
        simp only [if_neg z'] at hq'
        exact (hf q hq).2.2.2 l z' hq'
    · simp only [if_neg z] at hq
      by_cases z' : l = i
      · simp only [z', if_pos] at hq'
        exact (hf q hq').2.2.2 j z hq
      · simp only [if_neg z'] at hq'
        exact r.dj j l hjl q hq hq'
  · have h' := hne j k' h
    obtain ⟨a, b⟩ := r.par j k' h
    exact ⟨by rw [List.getElem?_set_ne (Ne.symm h')]; exact a, by rw [List.getElem?_set_ne (Ne.symm h')]; exact b⟩
/-- what is one's own read as data -/
theorem ow_view : ∀ {k : Kd} {v : V} {d : D} {fp : List Addr}, Ow K F H k v d fp → Same F H → Dp K H v d := by
  intro k
  induction k with
  | sh => intro v d fp h s; exact dp_mono s h.2
  | ls k ih =>
    intro v d fp h s
    obtain ⟨p, xs, ds, fs, rfl, rfl, hp, rfl, al⟩ := h
    refine .lst (SqL.of hp) ?_
    clear hp
    induction al with
    | nil => exact .nil
    | cons q _ ih2 => exact .cons (ih q s) (ih2)
  | pm k ih => intro v d fp h s; exact ih h s
end
end Z
set_option Elab.async false
set_option linter.all false
set_option maxRecDepth 100000
namespace Z
open PySem L2
/-! ### combinators -/
def bnd {α β : Type} (m : M α) (f : α → M β) : M β := fun s => match m s with
  | .ok a s' => f a s'
  | .no => .no
def opt {α : Type} (o : Option α) : M α := fun s => match o with
  | some a => .ok a s
  | none => .no
/-- a thing that is read: data, or the slot of a thing of one's own -/
inductive BR where
  | val (d : D)
  | slot (i : Nat)
def res (s : DS) : BR → Option D
  | .val d => some d
  | .slot i => match s[i]? with
    | some (some d) => some d
    | _ => none
def mV (m : M D) : M BR := bnd m fun d s => .ok (.val d) s
def mSlot (i : Nat) : M BR := fun s => match s[i]? with
  | some (some _) => .ok (.slot i) s
  | _ => .no
def mVar (i : Nat) : M D := fun s => match s[i]? with
  | some (some d) => .ok d s
  | _ => .no
def mC (d : D) : M D := fun s => .ok d s
def mOp (f : D → D → Option D) (a b : M BR) : M D := bnd a fun x => bnd b fun y => fun s => match res s x, res s y with
  | some dx, some dy => opt (f dx dy) s
  | _, _ => .no
def mUn (f : D → Option D) (a : M BR) : M D := bnd a fun x => fun s => match res s x with
  | some dx => opt (f dx) s
  | none => .no
def tru : D → Option Bool
  | .bool b => some b
  | _ => none
def mB (m : M D) : M Bool := bnd m fun d => opt (tru d)
def mAnd (a b : M Bool) : M Bool := bnd a fun x => match x with
  | true => b
  | false => fun s => .ok false s
def mOr (a b : M Bool) : M Bool := bnd a fun x => match x with
  | true => fun s => .ok true s
  | false => b
def mNot (a : M Bool) : M Bool := bnd a fun x => fun s => .ok (!x) s
def mAndV (a b : M D) : M D := bnd (mB a) fun x => match x with
  | true => b
  | false => fun s => .ok (.bool false) s
def mOrV (a b : M D) : M D := bnd (mB a) fun x => match x with
  | true => fun s => .ok (.bool true) s
  | false => b
def mNotV (a : M D) : M D := bnd (mB a) fun x => fun s => .ok (.bool (!x)) s
def mIf (t : M Bool) (a b : M D) : M D := bnd t fun x => match x with
  | true => a
  | false => b
def mChain (f g : D → D → Option D) (a b c : M D) : M D := bnd a fun x => bnd b fun y => bnd (opt (f x y)) fun z => match z with
  | .bool true => bnd c fun w => opt (g y w)
  | .bool false => fun s => .ok (.bool false) s
  | _ => fun _ => .no
def mNil : M (List D) := fun s => .ok [] s
def mCons (a : M D) (r : M (List D)) : M (List D) := bnd a fun x => bnd r fun xs => fun s => .ok (x :: xs) s
def mNilB : M (List BR) := fun s => .ok [] s
def mConsB (a : M BR) (r : M (List BR)) : M (List BR) := bnd a fun x => bnd r fun xs => fun s => .ok (x :: xs) s
def fits (n : Nat) : Bool := decide (n ≤ sizeLine)
def mTup (a : M (List D)) : M D := bnd a fun xs => opt (if fits xs.length then some (.tuple xs) else none)
def mLst (a : M (List D)) : M D := bnd a fun xs => opt (if fits xs.length then some (.list xs) else none)
def mB1 (f : List D → Option D) (a : M (List BR)) : M D := bnd a fun xs => fun s => match xs.mapM (res s) with
  | some ds => opt (f ds) s
  | none => .no
/-! ### scalars, views, growth -/
def Sc : V → D → Prop
  | .non, .none => True
  | .bl b, .bool c => b = c
  | .int i, .int j => i = j
  | .str x, .str y => x = y
  | _, _ => False
theorem Sc.dp {K : Fg} {F : Hp} : ∀ {v : V} {d : D}, Sc v d → Dp K F v d := by
  intro v d h
  cases v <;> cases d <;> first | exact h.elim | skip
  · exact .non
  · cases h; exact .bl _
  · cases h; exact .int _
  · cases h; exact .str _
def Vw (K : Fg) (F H : Hp) (v : V) (d : D) : Prop := Dp K F v d ∨ ∃ p xs ds, v = .ref p ∧ d = .list ds ∧ H p = some (.lst xs) ∧ DpAll K F xs ds
theorem Vw.dp {K : Fg} {F H : Hp} {v : V} {d : D} (h : Vw K F H v d) (s : Same F H) : Dp K H v d := by
  rcases h with h | ⟨p, xs, ds, rfl, rfl, hp, al⟩
  · exact dp_mono s h
  · exact .lst (SqL.of hp) (dpa_mono s al)
theorem Vw.lst {K : Fg} {F H : Hp} {v : V} {ds : List D} (h : Vw K F H v (.list ds)) (s : Same F H) : ∃ p xs, v = .ref p ∧ SqL K H p xs ∧ DpAll K F xs ds := by
  rcases h with h | ⟨p, xs, ds', rfl, e, hp, al⟩
  · cases h with
    | lst h r => exact ⟨_, _, rfl, sqL_mono s h, r⟩
  · cases e; exact ⟨p, xs, rfl, SqL.of hp, al⟩
theorem Vw.tup {K : Fg} {F H : Hp} {v : V} {ds : List D} (h : Vw K F H v (.tuple ds)) (s : Same F H) : ∃ p xs, v = .ref p ∧ SqT K H p xs ∧ DpAll K F xs ds := by
  rcases h with h | ⟨p, xs, ds', rfl, e, hp, al⟩
  · cases h with
    | tup h r => exact ⟨_, _, rfl, sqT_mono s h, r⟩
  · cases e
theorem Vw.int {K : Fg} {F H : Hp} {v : V} {i : Int} (h : Vw K F H v (.int i)) : v = .int i := by
  rcases h with h | ⟨p, xs, ds', rfl, e, hp, al⟩
  · cases h; rfl
  · cases e
theorem Vw.bl {K : Fg} {F H : Hp} {v : V} {i : Bool} (h : Vw K F H v (.bool i)) : v = .bl i := by
  rcases h with h | ⟨p, xs, ds', rfl, e, hp, al⟩
  · cases h; rfl
  · cases e
theorem Vw.str {K : Fg} {F H : Hp} {v : V} {i : Str} (h : Vw K F H v (.str i)) : v = .str i := by
  rcases h with h | ⟨p, xs, ds', rfl, e, hp, al⟩
  · cases h; rfl
  · cases e
theorem Vw.non {K : Fg} {F H : Hp} {v : V} (h : Vw K F H v .none) : v = .non := by
  rcases h with h | ⟨p, xs, ds', rfl, e, hp, al⟩
  · cases h; rfl
  · cases e
theorem dpa_len {K : Fg} {F : Hp} : ∀ {vs : List V} {ds : List D}, DpAll K F vs ds → vs.length = ds.length
  | _, _, .nil => rfl
  | _, _, .cons _ r => by simp only [List.length_cons, dpa_len r]
theorem dpa_get {K : Fg} {F : Hp} : ∀ {vs : List V} {ds : List D} {i : Nat} {d : D}, DpAll K F vs ds → ds[i]? = some d → ∃ v, vs[i]? = some v ∧ Dp K F v d
  | _, _, _, _, .nil, e => by simp at e
  | _, _, 0, _, .cons h _, e => by simp at e; subst e; exact ⟨_, rfl, h⟩
  | _, _, i + 1, d, .cons _ t, e => by
    obtain ⟨u, h1, h2⟩ := dpa_get (i := i) (d := d) t (by simpa using e)
    exact ⟨u, by simpa using h1, h2⟩
theorem dpa_append {K : Fg} {F : Hp} : ∀ {vs ws : List V} {ds es : List D}, DpAll K F vs ds → DpAll K F ws es → DpAll K F (vs ++ ws) (ds ++ es)
  | _, _, _, _, .nil, s => s
  | _, _, _, _, .cons r t, s => .cons r (dpa_append t s)
theorem dpa_take {K : Fg} {F : Hp} : ∀ {vs : List V} {ds : List D} (n : Nat), DpAll K F vs ds → DpAll K F (vs.take n) (ds.take n)
  | _, _, 0, _ => .nil
  | _, _, _ + 1, .nil => .nil
  | _, _, n + 1, .cons r t => .cons r (dpa_take n t)
theorem dpa_drop {K : Fg} {F : Hp} : ∀ {vs : List V} {ds : List D} (n : Nat), DpAll K F vs ds → DpAll K F (vs.drop n) (ds.drop n)
  | _, _, 0, r => r
  | _, _, _ + 1, .nil => .nil
  | _, _, n + 1, .cons _ t => dpa_drop n t
theorem dpa_set {K : Fg} {F : Hp} {v : V} {d : D} (h : Dp K F v d) : ∀ {vs : List V} {ds : List D} (n : Nat), DpAll K F vs ds → DpAll K F (vs.set n v) (ds.set n d)
  | _, _, _, .nil => .nil
  | _, _, 0, .cons _ t => .cons h t
  | _, _, n + 1, .cons r t => .cons r (dpa_set h n t)
/-- the heap is as it was, or has one new thing, to be read -/
inductive Grow (F H : Hp) : Hp → Hp → Prop
  | refl : Grow F H F H
  | new {p : Addr} (o : HO) : H p = none → Grow F H (upd F p o) (upd H p o)
section
variable {K : Fg} {c : Ctx} {O : List Kd} {F F' H H' : Hp} {σ : St} {fps : Nat → List Addr} {ds : DS}
theorem Grow.rel (g : Grow F H F' H') (r : Rel K c O F H σ fps ds) : Rel K c O F' H' σ fps ds ∧ Same F F' := by
  cases g with
  | refl => exact ⟨r, Same.refl _⟩
  | new o h => exact ⟨r.alloc h o, same_upd (r.fresh h).1⟩
def lsish : Kd → Bool
  | .ls .sh => true
  | .pm (.ls .sh) => true
  | _ => false
def Bm (K : Fg) (O : List Kd) (F : Hp) (σ : St) (v : V) : BR → Prop
  | .val d => Dp K F v d
  | .slot i => σ[i]? = some (some v) ∧ lsish (O.getD i .sh) = true
theorem all3_sh {xs : List V} {ds : List D} {fs : List (List Addr)} (h : All3 (Ow K F H .sh) xs ds fs) : DpAll K F xs ds ∧ fs.flatten = [] := by
  induction h with
  | nil => exact ⟨.nil, rfl⟩
  | cons h _ ih =>
    obtain ⟨e, h⟩ := h
    subst e
    exact ⟨.cons h ih.1, by simpa using ih.2⟩
theorem ow_ls {v : V} {d : D} {fp : List Addr} {k : Kd} (hk : lsish k = true) (h : Ow K F H k v d fp) : ∃ p xs ds, v = .ref p ∧ d = .list ds ∧ H p = some (.lst xs) ∧ fp = [p] ∧ DpAll K F xs ds := by
  have : Ow K F H (.ls .sh) v d fp := by
    unfold lsish at hk
    split at hk
    · exact h
    · exact h
    · cases hk
  obtain ⟨p, xs, ds, fs, rfl, rfl, hp, rfl, al⟩ := this
  obtain ⟨a, b⟩ := all3_sh al
  exact ⟨p, xs, ds, rfl, rfl, hp, by rw [b], a⟩
theorem ls_ow {p : Addr} {xs : List V} {ds : List D} (hp : H p = some (.lst xs)) (al : DpAll K F xs ds) : Ow K F H (.ls .sh) (.ref p) (.list ds) [p] := by
  have : ∃ fs : List (List Addr), fs.flatten = [] ∧ All3 (Ow K F H .sh) xs ds fs := by
    clear hp
    induction al using DpAll.rec (motive_1 := fun _ _ _ => True) with
    | nil => exact ⟨[], rfl, .nil⟩
    | cons h _ _ ih =>
      obtain ⟨fs, e, a⟩ := ih
      exact ⟨[] :: fs, by simpa using e, .cons ⟨rfl, h⟩ a⟩
    | _ => trivial
  obtain ⟨fs, e, a⟩ := this
  exact ⟨p, xs, ds, fs, rfl, rfl, hp, by rw [e], a⟩
theorem Bm.vw {br : BR} {v : V} {d : D} (r : Rel K c O F H σ fps ds) (b : Bm K O F σ v br) (e : res ds br = some d) : Vw K F H v d := by
  cases br with
  | val d' => cases e; exact .inl b
  | slot i =>
    unfold res at e
    simp only at e
    split at e
    · rename_i d' he
      cases e
      obtain ⟨u, hu, ow⟩ := r.slots i _ he
      rw [b.1] at hu
      cases hu
      obtain ⟨p, xs, ds', e1, e2, hp, _, al⟩ := ow_ls b.2 ow
      exact .inr ⟨p, xs, ds', e1, e2, hp, al⟩
    · cases e
theorem Bm.mono {br : BR} {v : V} (s : Same F F') (b : Bm K O F σ v br) : Bm K O F' σ v br := by
  cases br with
  | val d => exact dp_mono s b
  | slot i => exact b
end
structure DB (K : Fg) (c : Ctx) (O : List Kd) (t : TE) (m : M BR) : Prop where
  run : ∀ {F H : Hp} {σ : St} {fps : Nat → List Addr} {ds ds' : DS} {b : BR}, Rel K c O F H σ fps ds → m ds = .ok b ds' → ∀ Q : VK,
    (∀ F' H' fps' v, Same F F' → Rel K c O F' H' σ fps' ds' → Bm K O F' σ v b → Q v H') → t σ H Q
inductive BmA (K : Fg) (O : List Kd) (F : Hp) (σ : St) : List V → List BR → Prop
  | nil : BmA K O F σ [] []
  | cons {v b vs bs} : Bm K O F σ v b → BmA K O F σ vs bs → BmA K O F σ (v :: vs) (b :: bs)
structure DAB (K : Fg) (c : Ctx) (O : List Kd) (t : TA) (m : M (List BR)) : Prop where
  run : ∀ {F H : Hp} {σ : St} {fps : Nat → List Addr} {ds ds' : DS} {es : List BR}, Rel K c O F H σ fps ds → m ds = .ok es ds' → ∀ Q : List V → Hp → Prop,
    (∀ F' H' fps' vs, Same F F' → Rel K c O F' H' σ fps' ds' → BmA K O F' σ vs es → Q vs H') → t σ H Q
/-- an operation by values and its meaning on data -/
def OpG (K : Fg) (r : R2) (f : D → D → Option D) : Prop := ∀ (F H : Hp) (x y : V) (dx dy d : D), Same F H → Vw K F H x dx → Vw K F H y dy → f dx dy = some d → ∀ Q : VK, (∀ F' H' v, Grow F H F' H' → Dp K F' v d → Q v H') → r x y H Q
def UnG (K : Fg) (r : V → Hp → VK → Prop) (f : D → Option D) : Prop := ∀ (F H : Hp) (x : V) (dx d : D), Same F H → Vw K F H x dx → f dx = some d → ∀ Q : VK, (∀ F' H' v, Grow F H F' H' → Dp K F' v d → Q v H') → r x H Q
inductive VwA (K : Fg) (F H : Hp) : List V → List D → Prop
  | nil : VwA K F H [] []
  | cons {v d vs ds} : Vw K F H v d → VwA K F H vs ds → VwA K F H (v :: vs) (d :: ds)
def CaG (K : Fg) (r : List V → Hp → VK → Prop) (f : List D → Option D) : Prop := ∀ (F H : Hp) (xs : List V) (es : List D) (d : D), Same F H → VwA K F H xs es → f es = some d → ∀ Q : VK, (∀ F' H' v, Grow F H F' H' → Dp K F' v d → Q v H') → r xs H Q
theorem bnd_ok {α β : Type} {m : M α} {f : α → M β} {s s' : DS} {b : β} (h : bnd m f s = .ok b s') : ∃ a s1, m s = .ok a s1 ∧ f a s1 = .ok b s' := by
  unfold bnd at h
  cases e : m s with
  | ok a s1 => rw [e] at h; exact ⟨a, s1, rfl, h⟩
  | no => rw [e] at h; cases h
theorem opt_ok {α : Type} {o : Option α} {s s' : DS} {a : α} (h : opt o s = .ok a s') : o = some a ∧ s' = s := by
  unfold opt at h
  cases o with
  | none => cases h
  | some b => cases h; exact ⟨rfl, rfl⟩
section
variable {K : Fg} {c : Ctx} {O : List Kd} {ta tb tc te : TE} {tt tu : TT} {ma mb mc : M D} {m1 m2 : M Bool} {b1 b2 : M BR}
theorem DE.b (h : DE K c O ta ma) : DB K c O ta (mV ma) := ⟨fun {F H σ fps ds ds' b} r e Q q => by
  obtain ⟨d, s1, e1, e2⟩ := bnd_ok e
  cases e2
  exact h.run r e1 Q fun F' H' fps' v s r' dp => q F' H' fps' v s r' dp⟩
theorem d_var (i : Nat) (hk : O.getD i .sh = .sh := by rfl) : DE K c O (tVar i) (mVar i) := ⟨fun {F H σ fps ds ds' d} r e Q q => by
  unfold mVar at e
  split at e
  · rename_i d' he
    cases e
    obtain ⟨v, hv, ow⟩ := r.slots i _ he
    rw [hk] at ow
    exact ⟨v, hv, q F H fps v (Same.refl _) r ow.2⟩
  · cases e⟩
theorem d_slot (i : Nat) (hk : lsish (O.getD i .sh) = true := by rfl) : DB K c O (tVar i) (mSlot i) := ⟨fun {F H σ fps ds ds' b} r e Q q => by
  unfold mSlot at e
  split at e
  · rename_i d' he
    cases e
    obtain ⟨v, hv, ow⟩ := r.slots i _ he
    exact ⟨v, hv, q F H fps v (Same.refl _) r ⟨hv, hk⟩⟩
  · cases e⟩
theorem d_C {v : V} {d : D} (h : Sc v d) : DE K c O (tC v) (mC d) := ⟨fun r e Q q => by
  cases e
  exact q _ _ _ v (Same.refl _) r h.dp⟩
theorem d_int {i : Int} : DE K c O (tC (.int i)) (mC (.int i)) := d_C rfl
theorem d_bl {i : Bool} : DE K c O (tC (.bl i)) (mC (.bool i)) := d_C rfl
theorem d_str {i : Str} : DE K c O (tC (.str i)) (mC (.str i)) := d_C rfl
theorem d_non : DE K c O (tC .non) (mC .none) := d_C trivial
theorem d_op {r : R2} {f : D → D → Option D} (ho : OpG K r f) (ha : DB K c O ta b1) (hb : DB K c O tb b2) : DE K c O (tOp r ta tb) (mOp f b1 b2) := ⟨fun {F H σ fps ds ds' d} rl e Q q => by
  obtain ⟨x, s1, e1, g1⟩ := bnd_ok e
  obtain ⟨y, s2, e2, g2⟩ := bnd_ok g1
  refine ha.run rl e1 _ fun F1 H1 fps1 v sF r1 bv => ?_
  refine hb.run r1 e2 _ fun F2 H2 fps2 u sF2 r2 bu => ?_
  split at g2
  · rename_i dx dy hx hy
    obtain ⟨g3, z⟩ := opt_ok g2
    subst z
    refine ho F2 H2 v u dx dy d r2.sub (Bm.vw r2 (bv.mono sF2) hx) (Bm.vw r2 bu hy) g3 Q fun F3 H3 w g dp => ?_
    obtain ⟨r3, s3⟩ := g.rel r2
    exact q F3 H3 fps2 w ((sF.trans sF2).trans s3) r3 dp
  · cases g2⟩
theorem d_un {r : V → Hp → VK → Prop} {f : D → Option D} (ho : UnG K r f) (ha : DB K c O ta b1) : DE K c O (tUn r ta) (mUn f b1) := ⟨fun {F H σ fps ds ds' d} rl e Q q => by
  obtain ⟨x, s1, e1, g2⟩ := bnd_ok e
  refine ha.run rl e1 _ fun F1 H1 fps1 v sF r1 bv => ?_
  split at g2
  · rename_i dx hx
    obtain ⟨g3, z⟩ := opt_ok g2
    subst z
    refine ho F1 H1 v dx d r1.sub (Bm.vw r1 bv hx) g3 Q fun F3 H3 w g dp => ?_
    obtain ⟨r3, s3⟩ := g.rel r1
    exact q F3 H3 fps1 w (sF.trans s3) r3 dp
  · cases g2⟩
theorem d_test {m : M D} (h : DE K c O te m) : DT K c O (tTest te) (mB m) := ⟨fun {F H σ fps ds ds' b} r e Q q => by
  obtain ⟨d, s1, e1, e⟩ := bnd_ok e
  obtain ⟨e, z⟩ := opt_ok e
  subst z
  refine h.run r e1 _ fun F1 H1 fps1 v s r1 dp => ?_
  unfold tru at e
  split at e
  · cases e; cases dp; exact ⟨_, rfl, q F1 H1 fps1 s r1⟩
  · cases e⟩
theorem d_tB {m : M D} (h : DE K c O te m) : DT K c O (tB te) (mB m) := d_test h
theorem d_and (h1 : DT K c O tt m1) (h2 : DT K c O tu m2) : DT K c O (tAnd tt tu) (mAnd m1 m2) := ⟨fun {F H σ fps ds ds' b} r e Q q => by
  obtain ⟨d, s1, e1, e⟩ := bnd_ok e
  refine h1.run r e1 _ fun F1 H1 fps1 s r1 => ?_
  cases d with
  | true => exact iteT (h2.run r1 e _ fun F2 H2 fps2 s' r2 => q F2 H2 fps2 (s.trans s') r2)
  | false => cases e; exact iteF (q F1 H1 fps1 s r1)⟩
theorem d_or (h1 : DT K c O tt m1) (h2 : DT K c O tu m2) : DT K c O (tOr tt tu) (mOr m1 m2) := ⟨fun {F H σ fps ds ds' b} r e Q q => by
  obtain ⟨d, s1, e1, e⟩ := bnd_ok e
  refine h1.run r e1 _ fun F1 H1 fps1 s r1 => ?_
  cases d with
  | false => exact iteF (h2.run r1 e _ fun F2 H2 fps2 s' r2 => q F2 H2 fps2 (s.trans s') r2)
  | true => cases e; exact iteT (q F1 H1 fps1 s r1)⟩
theorem d_not (h1 : DT K c O tt m1) : DT K c O (tNot tt) (mNot m1) := ⟨fun {F H σ fps ds ds' b} r e Q q => by
  obtain ⟨d, s1, e1, e⟩ := bnd_ok e
  refine h1.run r e1 _ fun F1 H1 fps1 s r1 => ?_
  cases e
  exact q F1 H1 fps1 s r1⟩
theorem d_andV (h1 : DE K c O ta ma) (h2 : DE K c O tb mb) : DE K c O (tAndV ta tb) (mAndV ma mb) := ⟨fun {F H σ fps ds ds' b} r e Q q => by
  obtain ⟨d, s1, e1, e⟩ := bnd_ok e
  refine (d_test h1).run r e1 _ fun F1 H1 fps1 s r1 => ?_
  cases d with
  | true => exact iteT (h2.run r1 e _ fun F2 H2 fps2 v s' r2 => q F2 H2 fps2 v (s.trans s') r2)
  | false => cases e; exact iteF (q F1 H1 fps1 _ s r1 (.bl _))⟩
theorem d_orV (h1 : DE K c O ta ma) (h2 : DE K c O tb mb) : DE K c O (tOrV ta tb) (mOrV ma mb) := ⟨fun {F H σ fps ds ds' b} r e Q q => by
  obtain ⟨d, s1, e1, e⟩ := bnd_ok e
  refine (d_test h1).run r e1 _ fun F1 H1 fps1 s r1 => ?_
  cases d with
  | false => exact iteF (h2.run r1 e _ fun F2 H2 fps2 v s' r2 => q F2 H2 fps2 v (s.trans s') r2)
  | true => cases e; exact iteT (q F1 H1 fps1 _ s r1 (.bl _))⟩
theorem d_notV (h1 : DE K c O ta ma) : DE K c O (tNotV ta) (mNotV ma) := ⟨fun {F H σ fps ds ds' b} r e Q q => by
  obtain ⟨d, s1, e1, e⟩ := bnd_ok e
  refine (d_test h1).run r e1 _ fun F1 H1 fps1 s r1 => ?_
  cases e
  exact q F1 H1 fps1 _ s r1 (.bl _)⟩
theorem d_ifE (h0 : DT K c O tt m1) (h1 : DE K c O ta ma) (h2 : DE K c O tb mb) : DE K c O (tIf tt ta tb) (mIf m1 ma mb) := ⟨fun {F H σ fps ds ds' b} r e Q q => by
  obtain ⟨d, s1, e1, e⟩ := bnd_ok e
  refine h0.run r e1 _ fun F1 H1 fps1 s r1 => ?_
  cases d with
  | true => exact iteT (h1.run r1 e _ fun F2 H2 fps2 v s' r2 => q F2 H2 fps2 v (s.trans s') r2)
  | false => exact iteF (h2.run r1 e _ fun F2 H2 fps2 v s' r2 => q F2 H2 fps2 v (s.trans s') r2)⟩
theorem d_chain {r r' : R2} {f f' : D → D → Option D} (ho : OpG K r f) (ho' : OpG K r' f') (ha : DE K c O ta ma) (hb : DE K c O tb mb) (hc : DE K c O tc mc) : DE K c O (tChain r r' ta tb tc) (mChain f f' ma mb mc) := ⟨fun {F H σ fps ds ds' d} rl e Q q => by
  obtain ⟨x, s1, e1, g1⟩ := bnd_ok e
  obtain ⟨y, s2, e2, g2⟩ := bnd_ok g1
  obtain ⟨z, s3, e3, g3⟩ := bnd_ok g2
  obtain ⟨e4, hz⟩ := opt_ok e3
  subst hz
  refine ha.run rl e1 _ fun F1 H1 fps1 v sF r1 bv => ?_
  refine hb.run r1 e2 _ fun F2 H2 fps2 u sF2 r2 bu => ?_
  refine ho F2 H2 v u x y z r2.sub (.inl (dp_mono sF2 bv)) (.inl bu) e4 _ fun F3 H3 w g dp => ?_
  obtain ⟨r3, sF3⟩ := g.rel r2
  split at g3
  · cases dp
    refine ⟨_, rfl, iteT ?_⟩
    obtain ⟨w', s4, e5, g4⟩ := bnd_ok g3
    obtain ⟨g5, hz⟩ := opt_ok g4
    subst hz
    refine hc.run r3 e5 _ fun F4 H4 fps4 v4 s4 r4 bv4 => ?_
    refine ho' F4 H4 u v4 y w' d r4.sub (.inl (dp_mono (sF3.trans s4) bu)) (.inl bv4) g5 Q fun F5 H5 w5 g6 dp5 => ?_
    obtain ⟨r5, sF5⟩ := g6.rel r4
    exact q F5 H5 fps4 w5 ((((sF.trans sF2).trans sF3).trans s4).trans sF5) r5 dp5
  · cases dp
    cases g3
    exact ⟨_, rfl, iteF (q F3 H3 fps2 _ ((sF.trans sF2).trans sF3) r3 (.bl _))⟩
  · cases g3⟩
end
end Z
set_option Elab.async false
set_option linter.all false
set_option maxRecDepth 100000
namespace Z
open PySem L2
section
variable {K : Fg} {c : Ctx} {O : List Kd} {ta tb tc te : TE} {tt tu : TT} {ma mb mc : M D} {m1 m2 : M Bool} {b1 b2 : M BR} {tl : TA} {ml : M (List D)} {bl : M (List BR)}
/-! ### arguments, displays, built-ins -/
theorem da_nil : DA K c O tNil mNil := ⟨fun r e Q q => by cases e; exact q _ _ _ [] (Same.refl _) r .nil⟩
theorem da_cons (ha : DE K c O ta ma) (hl : DA K c O tl ml) : DA K c O (tCons ta tl) (mCons ma ml) := ⟨fun {F H σ fps ds ds' es} rl e Q q => by
  obtain ⟨x, s1, e1, g1⟩ := bnd_ok e
  obtain ⟨y, s2, e2, g2⟩ := bnd_ok g1
  cases g2
  refine ha.run rl e1 _ fun F1 H1 fps1 v sF r1 bv => ?_
  refine hl.run r1 e2 _ fun F2 H2 fps2 vs sF2 r2 bu => ?_
  exact q F2 H2 fps2 (v :: vs) (sF.trans sF2) r2 (.cons (dp_mono sF2 bv) bu)⟩
theorem BmA.mono {F F' : Hp} {σ : St} : ∀ {vs : List V} {bs : List BR}, Same F F' → BmA K O F σ vs bs → BmA K O F' σ vs bs
  | _, _, _, .nil => .nil
  | _, _, s, .cons h t => .cons (h.mono s) (t.mono s)
theorem dab_nil : DAB K c O tNil mNilB := ⟨fun r e Q q => by cases e; exact q _ _ _ [] (Same.refl _) r .nil⟩
theorem dab_cons (ha : DB K c O ta b1) (hl : DAB K c O tl bl) : DAB K c O (tCons ta tl) (mConsB b1 bl) := ⟨fun {F H σ fps ds ds' es} rl e Q q => by
  obtain ⟨x, s1, e1, g1⟩ := bnd_ok e
  obtain ⟨y, s2, e2, g2⟩ := bnd_ok g1
  cases g2
  refine ha.run rl e1 _ fun F1 H1 fps1 v sF r1 bv => ?_
  refine hl.run r1 e2 _ fun F2 H2 fps2 vs sF2 r2 bu => ?_
  exact q F2 H2 fps2 (v :: vs) (sF.trans sF2) r2 (.cons (bv.mono sF2) bu)⟩
theorem fits_of {n : Nat} (h : fits n = true) : n ≤ sizeLine := of_decide_eq_true h
theorem d_tup (h : DA K c O tl ml) : DE K c O (tTup tl) (mTup ml) := ⟨fun {F H σ fps ds ds' d} rl e Q q => by
  obtain ⟨xs, s1, e1, g1⟩ := bnd_ok e
  obtain ⟨g2, z⟩ := opt_ok g1
  subst z
  split at g2
  · rename_i hf
    cases g2
    refine h.run rl e1 _ fun F1 H1 fps1 vs sF r1 bv => ?_
    refine ⟨by rw [dpa_len bv]; exact fits_of hf, fun p hp => ?_⟩
    have s2 : Same F1 (upd F1 p (.tup vs)) := same_upd (r1.fresh hp).1
    exact q _ _ fps1 (.ref p) (sF.trans s2) (r1.alloc hp _) (.tup (SqT.of upd_same) (dpa_mono s2 bv))
  · cases g2⟩
theorem d_lst (h : DA K c O tl ml) : DE K c O (tLst tl) (mLst ml) := ⟨fun {F H σ fps ds ds' d} rl e Q q => by
  obtain ⟨xs, s1, e1, g1⟩ := bnd_ok e
  obtain ⟨g2, z⟩ := opt_ok g1
  subst z
  split at g2
  · rename_i hf
    cases g2
    refine h.run rl e1 _ fun F1 H1 fps1 vs sF r1 bv => ?_
    refine ⟨by rw [dpa_len bv]; exact fits_of hf, fun p hp => ?_⟩
    have s2 : Same F1 (upd F1 p (.lst vs)) := same_upd (r1.fresh hp).1
    exact q _ _ fps1 (.ref p) (sF.trans s2) (r1.alloc hp _) (.lst (SqL.of upd_same) (dpa_mono s2 bv))
  · cases g2⟩
theorem o_lst (h : DA K c O tl ml) : DO K c O (.ls .sh) (tLst tl) (mLst ml) := ⟨fun {F H σ fps ds ds' d} rl e Q q => by
  obtain ⟨xs, s1, e1, g1⟩ := bnd_ok e
  obtain ⟨g2, z⟩ := opt_ok g1
  subst z
  split at g2
  · rename_i hf
    cases g2
    refine h.run rl e1 _ fun F1 H1 fps1 vs sF r1 bv => ?_
    refine ⟨by rw [dpa_len bv]; exact fits_of hf, fun p hp => ?_⟩
    obtain ⟨hF, h0, hq⟩ := r1.fresh hp
    refine q F1 _ fps1 (.ref p) [p] sF (r1.allocO hp _) (ls_ow upd_same bv) (fun q' hq' => ?_) (by simp)
    have : q' = p := by simpa using hq'
    subst this
    exact ⟨hF, by rw [upd_same]; simp, h0, hq⟩
  · cases g2⟩
theorem resA {F H : Hp} {σ : St} {fps : Nat → List Addr} {ds : DS} (r : Rel K c O F H σ fps ds) : ∀ {vs : List V} {bs : List BR} {es : List D}, BmA K O F σ vs bs → bs.mapM (res ds) = some es → VwA K F H vs es
  | _, _, es, .nil, e => by cases e; exact .nil
  | _, _, es, .cons (b := b) (bs := bs) h t, e => by
    rw [List.mapM_cons] at e
    cases e1 : res ds b with
    | none => rw [e1] at e; cases e
    | some d =>
      cases e2 : bs.mapM (res ds) with
      | none => rw [e1, e2] at e; cases e
      | some ds' =>
        rw [e1, e2] at e
        cases e
        exact .cons (Bm.vw r h e1) (resA r t e2)
theorem d_cb {r : List V → Hp → VK → Prop} {f : List D → Option D} (hc : CaG K r f) (h : DAB K c O tl bl) : DE K c O (tCB r tl) (mB1 f bl) := ⟨fun {F H σ fps ds ds' d} rl e Q q => by
  obtain ⟨xs, s1, e1, g1⟩ := bnd_ok e
  split at g1
  · rename_i es he
    obtain ⟨g2, z⟩ := opt_ok g1
    subst z
    refine h.run rl e1 _ fun F1 H1 fps1 vs sF r1 bv => ?_
    refine hc F1 H1 vs es d r1.sub (resA r1 bv he) g2 Q fun F2 H2 v g dp => ?_
    obtain ⟨r2, s2⟩ := g.rel r1
    exact q F2 H2 fps1 v (sF.trans s2) r2 dp
  · cases g1⟩
end
/-! ### operations on data -/
def i2 (g : Int → Int → Option D) : D → D → Option D
  | .int i, .int j => g i j
  | _, _ => none
section
variable {K : Fg}
theorem g_int {r : R2} {g : Int → Int → Option D} (h : ∀ (i j : Int) (d : D) (H : Hp) (Q : VK), g i j = some d → (∀ v, Sc v d → Q v H) → r (.int i) (.int j) H Q) : OpG K r (i2 g) := fun F H x y dx dy d sF vx vy e Q q => by
  unfold i2 at e
  split at e
  · rw [vx.int, vy.int]
    exact h _ _ d H Q e fun v sc => q F H v .refl sc.dp
  · cases e
theorem g_I0 {g : Int → Int → V} {g' : Int → Int → D} (h : ∀ i j, Sc (g i j) (g' i j)) : OpG K (rI0 g) (i2 fun i j => some (g' i j)) := g_int fun i j d H Q e q => by
  cases e
  exact ⟨i, j, rfl, rfl, q _ (h i j)⟩
theorem g_I {C : Int → Int → Prop} {C' : Int → Int → Bool} {g : Int → Int → V} {g' : Int → Int → D} (hC : ∀ i j, C' i j = true → C i j) (h : ∀ i j, Sc (g i j) (g' i j)) : OpG K (rI C g) (i2 fun i j => if C' i j then some (g' i j) else none) := g_int fun i j d H Q e q => by
  split at e
  · rename_i hc
    cases e
    exact ⟨i, j, rfl, rfl, hC i j hc, q _ (h i j)⟩
  · cases e
def addI := i2 fun i j => some (.int (i + j))
def subI := i2 fun i j => some (.int (i - j))
/-- how great numbers may be for a product -/
@[irreducible] def mulC (i j : Int) : Bool := decide ((Builtin.Int.intBits i : Int) + (Builtin.Int.intBits j : Int) ≤ 134217728)
def mulI := i2 fun i j => if mulC i j then some (.int (i * j)) else none
@[irreducible] def divC (_i j : Int) : Bool := decide (0 < j ∧ j.natAbs.log2 < 9000)
def divI := i2 fun i j => if divC i j then some (.int (i / j)) else none
def modC (_i j : Int) : Bool := decide (0 < j)
def modI := i2 fun i j => if modC i j then some (.int (i % j)) else none
def powC (i j : Int) : Bool := decide (0 ≤ j ∧ j ≤ 1000000 ∧ i.natAbs < 18446744073709551616)
def powI := i2 fun i j => if powC i j then some (.int (i ^ j.toNat)) else none
@[irreducible] def shlC (i j : Int) : Bool := decide (0 ≤ j ∧ (Builtin.Int.intBits i : Int) + j ≤ 134217728)
def shlI := i2 fun i j => if shlC i j then some (.int (i * 2 ^ j.toNat)) else none
def shrC (_i j : Int) : Bool := decide (0 ≤ j)
def shrI := i2 fun i j => if shrC i j then some (.int (i / 2 ^ j.toNat)) else none
def andI := i2 fun i j => some (.int (Builtin.bitAnd i j))
def orI := i2 fun i j => some (.int (Builtin.bitOr i j))
def xorI := i2 fun i j => some (.int (Builtin.bitXor i j))
def ltI := i2 fun i j => some (.bool (decide (i < j)))
def leI := i2 fun i j => some (.bool (decide (i ≤ j)))
def gtI := i2 fun i j => some (.bool (decide (j < i)))
def geI := i2 fun i j => some (.bool (decide (j ≤ i)))
theorem g_sub : OpG K (rI0 fun i j => .int (i - j)) subI := g_I0 fun _ _ => rfl
theorem g_mul : OpG K (rI CMulX fun i j => .int (i * j)) mulI := g_I (fun i j h => (of_decide_eq_true (by unfold mulC at h; exact h) : (Builtin.Int.intBits i : Int) + (Builtin.Int.intBits j : Int) ≤ 134217728)) fun _ _ => rfl
theorem g_div : OpG K (rI CDivW fun i j => .int (i / j)) divI := g_I (fun i j h => (of_decide_eq_true (by unfold divC at h; exact h) : 0 < j ∧ j.natAbs.log2 < 9000)) fun _ _ => rfl
theorem g_mod : OpG K (rI (fun _ j => 0 < j) fun i j => .int (i % j)) modI := g_I (fun _ _ h => of_decide_eq_true h) fun _ _ => rfl
theorem g_pow : OpG K (rI CPow fun i j => .int (i ^ j.toNat)) powI := g_I (fun i j h => (of_decide_eq_true h : 0 ≤ j ∧ j ≤ 1000000 ∧ i.natAbs < 18446744073709551616)) fun _ _ => rfl
theorem g_shl : OpG K (rI CShl fun i j => .int (i * 2 ^ j.toNat)) shlI := g_I (fun i j h => (of_decide_eq_true (by unfold shlC at h; exact h) : 0 ≤ j ∧ (Builtin.Int.intBits i : Int) + j ≤ 134217728)) fun _ _ => rfl
theorem g_shr : OpG K (rI (fun _ j => 0 ≤ j) fun i j => .int (i / 2 ^ j.toNat)) shrI := g_I (fun _ _ h => of_decide_eq_true h) fun _ _ => rfl
theorem g_and : OpG K (rI0 fun i j => .int (Builtin.bitAnd i j)) andI := g_I0 fun _ _ => rfl
theorem g_or : OpG K (rI0 fun i j => .int (Builtin.bitOr i j)) orI := g_I0 fun _ _ => rfl
theorem g_xor : OpG K (rI0 fun i j => .int (Builtin.bitXor i j)) xorI := g_I0 fun _ _ => rfl
theorem g_lt : OpG K (rI0 fun i j => .bl (decide (i < j))) ltI := g_I0 fun _ _ => rfl
theorem g_le : OpG K (rI0 fun i j => .bl (decide (i ≤ j))) leI := g_I0 fun _ _ => rfl
theorem g_gt : OpG K (rI0 fun i j => .bl (decide (j < i))) gtI := g_I0 fun _ _ => rfl
theorem g_ge : OpG K (rI0 fun i j => .bl (decide (j ≤ i))) geI := g_I0 fun _ _ => rfl
/-- == -/
def eqB : D → D → Option Bool
  | .int i, .int j => some (decide (i = j))
  | d, e => if SeqAt.shaped d && SeqAt.shaped e then some (PyData.eqv d e) else none
def eqD (x y : D) : Option D := (eqB x y).map .bool
def neD (x y : D) : Option D := (eqB x y).map fun b => .bool (!b)
theorem shaped_int (i : Int) : SeqAt.shaped (.int i) = true := by simp [SeqAt.shaped, PyData.canLay0, PyData.depth]
theorem eqB_all {d e : D} {b : Bool} (h : eqB d e = some b) : SeqAt.shaped d = true ∧ SeqAt.shaped e = true ∧ b = PyData.eqv d e := by
  unfold eqB at h
  split at h
  · cases h
    exact ⟨shaped_int _, shaped_int _, by rw [PyData.eqv]; exact (Bool.beq_eq_decide_eq _ _).symm⟩
  · split at h
    · rename_i hs
      rw [Bool.and_eq_true] at hs
      cases h
      exact ⟨hs.1, hs.2, rfl⟩
    · cases h
theorem g_eq : OpG K (rEqD K) eqD := fun F H x y dx dy d sF vx vy e Q q => by
  unfold eqD at e
  cases h : eqB dx dy with
  | none => rw [h] at e; cases e
  | some b =>
    rw [h] at e
    cases e
    obtain ⟨h1, h2, h3⟩ := eqB_all h
    subst h3
    exact ⟨dx, dy, vx.dp sF, vy.dp sF, h1, h2, q F H _ .refl (.bl _)⟩
theorem g_ne : OpG K (rNeD K) neD := fun F H x y dx dy d sF vx vy e Q q => by
  unfold neD at e
  cases h : eqB dx dy with
  | none => rw [h] at e; cases e
  | some b =>
    rw [h] at e
    cases e
    obtain ⟨h1, h2, h3⟩ := eqB_all h
    subst h3
    exact ⟨dx, dy, vx.dp sF, vy.dp sF, h1, h2, q F H _ .refl (.bl _)⟩
/-- xs[i] -/
theorem atI_map {F : Hp} {vs : List V} {ds : List D} {i : Int} {d : D} (h : DpAll K F vs ds) (e : atI ds i = some d) : ∃ v, atI vs i = some v ∧ Dp K F v d := by
  unfold atI at e ⊢
  rw [dpa_len h]
  cases z : ixN ds.length i with
  | none => rw [z] at e; cases e
  | some j => rw [z] at e; exact dpa_get h e
def ixD : D → D → Option D
  | .list xs, .int i => atI xs i
  | .tuple xs, .int i => atI xs i
  | .str z, .int i => if fits z.length then (atI z.cps.toList i).map fun c => .str ⟨#[c]⟩ else none
  | _, _ => none
theorem g_ix : OpG K (rIx K) ixD := fun F H x y dx dy d sF vx vy e Q q => by
  unfold ixD at e
  split at e
  · obtain ⟨p, xs, rfl, sq, al⟩ := vx.lst sF
    obtain ⟨v, hv, dp⟩ := atI_map al e
    rw [vy.int]
    exact .inl ⟨p, xs, _, v, rfl, rfl, sq, hv, q F H v .refl dp⟩
  · obtain ⟨p, xs, rfl, sq, al⟩ := vx.tup sF
    obtain ⟨v, hv, dp⟩ := atI_map al e
    rw [vy.int]
    exact .inr (.inl ⟨p, xs, _, v, rfl, rfl, sq, hv, q F H v .refl dp⟩)
  · split at e
    · rename_i hf
      rw [vx.str, vy.int]
      rename_i z i
      cases h : atI z.cps.toList i with
      | none => rw [h] at e; cases e
      | some cc =>
        rw [h] at e
        cases e
        exact .inr (.inr ⟨z, i, cc, rfl, rfl, fits_of hf, h, q F H _ .refl (.str _)⟩)
    · cases e
  · cases e
/-- -x -/
def u1 (g : Int → D) : D → Option D
  | .int i => some (g i)
  | _ => none
theorem g_u {g : Int → V} {g' : Int → D} (h : ∀ i, Sc (g i) (g' i)) : UnG K (rU g) (u1 g') := fun F H x dx d sF vx e Q q => by
  unfold u1 at e
  split at e
  · cases e
    rw [vx.int]
    exact ⟨_, rfl, q F H _ .refl (h _).dp⟩
  · cases e
def negI := u1 fun i => .int (-i)
theorem g_neg : UnG K (rU fun i => .int (-i)) negI := g_u fun _ => rfl
end
end Z
set_option Elab.async false
set_option linter.all false
set_option maxRecDepth 100000
namespace Z
open PySem L2
/-! ### statements -/
def sNx : MS := fun s => .nx s
def sSeq (a b : MS) : MS := fun s => match a s with
  | .nx s' => b s'
  | .rt d s' => .rt d s'
  | .bk s' => .bk s'
  | .ct s' => .ct s'
  | .no => .no
def sSet (i : Nat) (m : M D) : MS := fun s => match m s with
  | .ok d s' => .nx (s'.set i (some d))
  | .no => .no
def sDrop (m : M D) : MS := fun s => match m s with
  | .ok _ s' => .nx s'
  | .no => .no
def sRet (m : M D) : MS := fun s => match m s with
  | .ok d s' => .rt d s'
  | .no => .no
def sIf (t : M Bool) (a b : MS) : MS := fun s => match t s with
  | .ok true s' => a s'
  | .ok false s' => b s'
  | .no => .no
def sNo : MS := fun _ => .no
def sBk : MS := fun s => .bk s
def sCt : MS := fun s => .ct s
/-- targets -/
abbrev MG := D → DS → Option DS
def gN (i : Nat) : MG := fun d s => some (s.set i (some d))
def gT (n : Nat) (g : List D → DS → Option DS) : MG := fun d s => match d with
  | .tuple xs => if xs.length = n then g xs s else none
  | _ => none
def gC (a : MG) (r : List D → DS → Option DS) : List D → DS → Option DS := fun xs s => match xs with
  | x :: ys => match a x s with
    | some s' => r ys s'
    | none => none
  | [] => none
def gE : List D → DS → Option DS := fun xs s => match xs with
  | [] => some s
  | _ => none
def sAsg (m : M D) (g : MG) : MS := fun s => match m s with
  | .ok d s' => match g d s' with
    | some s2 => .nx s2
    | none => .no
  | .no => .no
/-- xs.append(e), xs a list of one's own -/
def sApp (i : Nat) (m : M D) : MS := fun s => match s[i]? with
  | some (some (.list _)) => match m s with
    | .ok d s' => match s'[i]? with
      | some (some (.list xs)) => if decide (xs.length < sizeLine) then .nx (s'.set i (some (.list (xs ++ [d])))) else .no
      | _ => .no
    | .no => .no
  | _ => .no
/-- xs[e] = m, xs a list of one's own -/
def sPut (i : Nat) (me : M D) (m : M D) : MS := fun s => match m s with
  | .ok d s1 => match s1[i]? with
    | some (some (.list _)) => match me s1 with
      | .ok k s2 => match k, s2[i]? with
        | .int k, some (some (.list xs)) => match ixN xs.length k with
          | some j => .nx (s2.set i (some (.list (xs.set j d))))
          | none => .no
        | _, _ => .no
      | .no => .no
    | _ => .no
  | .no => .no
/-- loops -/
def turn (f : DS → RS) : RS → RS
  | .nx s => f s
  | .ct s => f s
  | .bk s => .nx s
  | .rt d s => .rt d s
  | .no => .no
def loop (g : MG) (b : MS) : List D → MS
  | [], s => .nx s
  | d :: r, s => match g d s with
    | some s' => turn (loop g b r) (b s')
    | none => .no
def sFor (mi : M (List D)) (g : MG) (b : MS) : MS := fun s => match mi s with
  | .ok xs s' => loop g b xs s'
  | .no => .no
def wl (t : M Bool) (b : MS) : Nat → MS
  | 0, _ => .no
  | n + 1, s => match t s with
    | .ok true s' => turn (wl t b n) (b s')
    | .ok false s' => .nx s'
    | .no => .no
open Classical in
noncomputable def sWhile (t : M Bool) (b : MS) : MS := fun s => if h : ∃ n, wl t b n s ≠ .no then wl t b (Classical.choose h) s else .no
theorem wl_mono {t : M Bool} {b : MS} : ∀ {n : Nat} {s : DS} (k : Nat), wl t b n s ≠ .no → wl t b (n + k) s = wl t b n s
  | 0, s, k, h => absurd rfl h
  | n + 1, s, k, h => by
    rw [show n + 1 + k = (n + k) + 1 by omega]
    unfold wl at h ⊢
    cases e : t s with
    | no => simp [e] at h
    | ok v s' =>
      rw [e] at h
      cases v with
      | false => rfl
      | true =>
        dsimp only at h ⊢
        cases e2 : b s' with
        | nx s2 => rw [e2] at h; exact wl_mono k h
        | ct s2 => rw [e2] at h; exact wl_mono k h
        | bk s2 => rfl
        | rt d s2 => rfl
        | no => rfl
theorem sWhile_of {t : M Bool} {b : MS} {s : DS} {r : RS} (n : Nat) (h : wl t b n s = r) (hr : r ≠ .no) : sWhile t b s = r := by
  have hx : ∃ n, wl t b n s ≠ .no := ⟨n, by rw [h]; exact hr⟩
  unfold sWhile
  rw [dif_pos hx]
  have h1 := Classical.choose_spec hx
  have h2 : wl t b n s ≠ .no := by rw [h]; exact hr
  have a := wl_mono n h1
  have b' := wl_mono (Classical.choose hx) h2
  rw [← a, Nat.add_comm, b', h]
section
variable {K : Fg} {c : Ctx} {Ob O O' O2 : List Kd} {te : TE} {tt : TT} {t u : TS} {m : M D} {m1 : M Bool} {a b : MS}
theorem Post.mono {F F' : Hp} {E : Ends} {r : RS} (s : Same F F') (h : Post K c Ob O' F E r) : Post K c Ob O' F' E r := by
  cases r with
  | nx _ => exact fun F2 H2 σ2 fps2 s2 => h F2 H2 σ2 fps2 (s.trans s2)
  | bk _ => exact fun F2 H2 σ2 fps2 s2 => h F2 H2 σ2 fps2 (s.trans s2)
  | ct _ => exact fun F2 H2 σ2 fps2 s2 => h F2 H2 σ2 fps2 (s.trans s2)
  | rt _ _ => exact fun F2 H2 σ2 fps2 O2 v fpv s2 => h F2 H2 σ2 fps2 O2 v fpv (s.trans s2)
  | no => exact h
theorem c_nil : DC K c Ob O tNext sNx O := ⟨fun r E p => p _ _ _ _ (Same.refl _) r⟩
theorem c_cons (h1 : DC K c Ob O t a O2) (h2 : DC K c Ob O2 u b O') : DC K c Ob O (tSeq t u) (sSeq a b) O' := ⟨fun {F H σ fps ds} r E p => by
  refine h1.run r _ ?_
  show Post K c Ob O2 F { E with nx := u E } (a ds)
  have p' : Post K c Ob O' F E (sSeq a b ds) := p
  unfold sSeq at p'
  cases e : a ds with
  | nx s' => rw [e] at p'; exact fun F1 H1 σ1 fps1 s1 r1 => h2.run r1 E (p'.mono s1)
  | bk _ => rw [e] at p'; exact p'
  | ct _ => rw [e] at p'; exact p'
  | rt _ _ => rw [e] at p'; exact p'
  | no => rw [e] at p'; exact p'⟩
theorem c_set (i : Nat) (h : DE K c O te m) (hi : i < O.length := by decide) (hp : isPm O[i]? = false := by rfl) : DC K c Ob O (tAsg te (gName i)) (sSet i m) (O.set i .sh) := ⟨fun {F H σ fps ds} r E p => by
  unfold sSet at p
  cases e : m ds with
  | no => rw [e] at p; exact p.elim
  | ok d s' =>
    rw [e] at p
    refine h.run r e _ fun F1 H1 fps1 v s1 r1 dp => ?_
    exact p F1 H1 _ _ s1 (r1.put hi hp (k := .sh) (fpv := []) ⟨rfl, dp⟩ (fun q hq => absurd hq (by simp)) (by simp))⟩
theorem c_setO (i : Nat) {k : Kd} (h : DO K c O k te m) (hi : i < O.length := by decide) (hp : isPm O[i]? = false := by rfl) : DC K c Ob O (tAsg te (gName i)) (sSet i m) (O.set i k) := ⟨fun {F H σ fps ds} r E p => by
  unfold sSet at p
  cases e : m ds with
  | no => rw [e] at p; exact p.elim
  | ok d s' =>
    rw [e] at p
    refine h.run r e _ fun F1 H1 fps1 v fpv s1 r1 ow hf nd => ?_
    exact p F1 H1 _ _ s1 (r1.put hi hp ow (fun q hq => ⟨(hf q hq).1, (hf q hq).2.1, (hf q hq).2.2.1, fun j _ => (hf q hq).2.2.2 j⟩) nd)⟩
theorem c_drop (h : DE K c O te m) : DC K c Ob O (tDrop te) (sDrop m) O := ⟨fun {F H σ fps ds} r E p => by
  unfold sDrop at p
  cases e : m ds with
  | no => rw [e] at p; exact p.elim
  | ok d s' =>
    rw [e] at p
    exact h.run r e _ fun F1 H1 fps1 v s1 r1 dp => p F1 H1 _ _ s1 r1⟩
theorem c_ret (h : DE K c O te m) (hk : c.rk = .sh) : DC K c Ob O (tRet te) (sRet m) O' := ⟨fun {F H σ fps ds} r E p => by
  unfold sRet at p
  cases e : m ds with
  | no => rw [e] at p; exact p.elim
  | ok d s' =>
    rw [e] at p
    exact h.run r e _ fun F1 H1 fps1 v s1 r1 dp => p F1 H1 σ fps1 O v [] s1 r1 (by rw [hk]; exact ⟨rfl, dp⟩) (fun q hq => absurd hq (by simp)) (by simp)⟩
theorem c_retO {k : Kd} (h : DO K c O k te m) (hk : c.rk = k) : DC K c Ob O (tRet te) (sRet m) O' := ⟨fun {F H σ fps ds} r E p => by
  unfold sRet at p
  cases e : m ds with
  | no => rw [e] at p; exact p.elim
  | ok d s' =>
    rw [e] at p
    refine h.run r e _ fun F1 H1 fps1 v fpv s1 r1 ow hf nd => p F1 H1 σ fps1 O v fpv s1 r1 (by rw [hk]; exact ow) (fun q hq => ?_) nd
    obtain ⟨h1, h2, h3, h4⟩ := hf q hq
    exact ⟨h1, h2, h3, fun i _ => h4 i⟩⟩
theorem c_if (h : DT K c O tt m1) (h1 : DC K c Ob O t a O') (h2 : DC K c Ob O u b O') : DC K c Ob O (tIfS tt t u) (sIf m1 a b) O' := ⟨fun {F H σ fps ds} r E p => by
  unfold sIf at p
  cases e : m1 ds with
  | no => rw [e] at p; exact p.elim
  | ok v s' =>
    rw [e] at p
    refine h.run r e _ fun F1 H1 fps1 s1 r1 => ?_
    cases v with
    | true => exact iteT (h1.run r1 E (p.mono s1))
    | false => exact iteF (h2.run r1 E (p.mono s1))⟩
theorem c_never : DC K c Ob O tNever sNo O' := ⟨fun r E p => p.elim⟩
theorem c_bk : DC K c O O tBreak sBk O' := ⟨fun r E p => p _ _ _ _ (Same.refl _) r⟩
theorem c_ct : DC K c O O tCont sCt O' := ⟨fun r E p => p _ _ _ _ (Same.refl _) r⟩
/-! ### freezing: a list of one's own is read alone from now on -/
theorem frz_sh {F H : Hp} {p : Addr} {xs : List V} {ds : List D} (hp : H p = some (.lst xs)) (al : DpAll K F xs ds) (hF : F p = none) : Dp K (upd F p (.lst xs)) (.ref p) (.list ds) := .lst (SqL.of upd_same) (dpa_mono (same_upd hF) al)
theorem Rel.freeze {F H : Hp} {σ : St} {fps : Nat → List Addr} {ds : DS} (r : Rel K c O F H σ fps ds) (i : Nat) (hk : O[i]? = some (.ls .sh)) (hs : ∃ d, ds[i]? = some (some d)) :
    ∃ F', Same F F' ∧ Rel K c (O.set i .sh) F' H σ (fun j => if j = i then [] else fps j) ds := by
  obtain ⟨d, hd⟩ := hs
  obtain ⟨v, hv, ow⟩ := r.slots i d hd
  have hk' : O.getD i .sh = .ls .sh := by rw [List.getD_eq_getElem?_getD, hk]; rfl
  have hi : i < O.length := (List.getElem?_eq_some_iff.mp hk).1
  rw [hk'] at ow
  obtain ⟨p, xs, es, rfl, rfl, hp, hfp, al⟩ := ow_ls rfl ow
  have hmem : p ∈ fps i := by rw [hfp]; simp
  obtain ⟨hF, hH, h0⟩ := r.off i p hmem
  have hnp : ∀ k, c.ps[i]? ≠ some (.pm k) := fun k z => by
    have := (r.par i k z).1
    rw [hk] at this
    cases this
  have h0' : c.H0 p = none := by
    rcases h0 with h | ⟨_, h⟩
    · exact h
    · rw [hk] at h; cases h
  have sF : Same F (upd F p (.lst xs)) := same_upd hF
  have hoff : ∀ j q, j ≠ i → q ∈ fps j → q ≠ p := fun j q hj hq z => by subst z; exact r.dj j i hj q hq hmem
  refine ⟨upd F p (.lst xs), sF, fun b o e => ?_, r.base.trans sF, r.keep, r.live, fun b o e => ?_, fun j d' hj => ?_, fun j q hq => ?_, fun j => ?_, fun j l hjl q hq hq' => ?_, fun j k h => ?_, r.len⟩
  · by_cases hb : b = p
    · subst hb; rw [upd_same] at e; rw [hp]; exact e
    · rw [upd_ne hb] at e; exact r.sub b o e
  · by_cases hb : b = p
    · subst hb; exact .inr h0'
    · rw [upd_ne hb] at e; exact r.new b o e
  · by_cases z : j = i
    · subst z
      rw [hd] at hj
      cases hj
      refine ⟨_, hv, ?_⟩
      rw [getD_set_eq hi]
      simp only [if_pos]
      exact ⟨rfl, frz_sh hp al hF⟩
    · obtain ⟨u, hu, w⟩ := r.slots j d' hj
      refine ⟨u, hu, ?_⟩
      rw [getD_set_ne z]
      simp only [if_neg z]
      exact ow_mono sF w fun _ _ => rfl
  · by_cases z : j = i
    · simp only [z, if_pos] at hq
      exact absurd hq (by simp)
    · simp only [if_neg z] at hq
      rw [List.getElem?_set_ne (Ne.symm z), upd_ne (hoff j q z hq)]
      exact r.off j q hq
  · by_cases z : j = i
    · simp only [z, if_pos]; simp
    · simp only [if_neg z]; exact r.nd j
  · by_cases z : j = i
    · simp only [z, if_pos] at hq
      exact absurd hq (by simp)
    · by_cases z' : l = i
      · simp only [z', if_pos] at hq'
        exact absurd hq' (by simp)
      · simp only [if_neg z] at hq
        simp only [if_neg z'] at hq'
        exact r.dj j l hjl q hq hq'
  · obtain ⟨x, y⟩ := r.par j k h
    have hj : j ≠ i := fun z => by subst z; exact hnp k h
    exact ⟨by rw [List.getElem?_set_ne (Ne.symm hj)]; exact x, y⟩
/-- from here on slot i is read alone -/
def sFrz (i : Nat) (b : MS) : MS := fun s => match s[i]? with
  | some (some _) => b s
  | _ => .no
theorem c_frz (i : Nat) (hk : O[i]? = some (.ls .sh)) (h : DC K c Ob (O.set i .sh) t b O') : DC K c Ob O t (sFrz i b) O' := ⟨fun {F H σ fps ds} r E p => by
  unfold sFrz at p
  split at p
  · rename_i d hd
    obtain ⟨F', s, r'⟩ := r.freeze i hk ⟨d, hd⟩
    exact h.run r' E (p.mono s)
  · exact p.elim⟩
/-! ### lists of one's own are changed -/
theorem Rel.mut {F H : Hp} {σ : St} {fps : Nat → List Addr} {ds : DS} (r : Rel K c O F H σ fps ds) {i : Nat} {p : Addr} {xs : List V} {es : List D} (hk : lsish (O.getD i .sh) = true) (hs : ∃ d, ds[i]? = some (some d)) (hv : σ[i]? = some (some (.ref p))) (hp : fps i = [p]) (al : DpAll K F xs es) :
    Rel K c O F (upd H p (.lst xs)) σ fps (ds.set i (some (.list es))) := by
  have hmem : p ∈ fps i := by rw [hp]; simp
  obtain ⟨hF, hH, h0⟩ := r.off i p hmem
  have hoff : ∀ j q, j ≠ i → q ∈ fps j → q ≠ p := fun j q hj hq z => by subst z; exact r.dj j i hj q hq hmem
  obtain ⟨d0, hd0⟩ := hs
  have hl : i < ds.length := (List.getElem?_eq_some_iff.mp hd0).1
  refine ⟨fun b o e => ?_, r.base, fun b o e n => ?_, fun b e => ?_, r.new, fun j d hj => ?_, fun j q hq => ?_, r.nd, r.dj, r.par, by rw [List.length_set]; exact r.len⟩
  · rw [upd_ne (ne_of_none e hF)]; exact r.sub b o e
  · have hb : b ≠ p := fun z => by
      subst z
      rcases h0 with h | ⟨h, _⟩
      · rw [h] at e; cases e
      · exact n h
    rw [upd_ne hb]; exact r.keep b o e n
  · by_cases hb : b = p
    · subst hb; rw [upd_same] at e; cases e
    · rw [upd_ne hb] at e; exact r.live b e
  · by_cases z : j = i
    · subst z
      rw [List.getElem?_set_self hl] at hj
      cases hj
      refine ⟨_, hv, ?_⟩
      rw [hp]
      have ow : Ow K F (upd H p (.lst xs)) (.ls .sh) (.ref p) (.list es) [p] := ls_ow upd_same al
      unfold lsish at hk
      split at hk
      · rename_i e; rw [e]; exact ow
      · rename_i e; rw [e]; exact ow
      · cases hk
    · rw [List.getElem?_set_ne (Ne.symm z)] at hj
      obtain ⟨u, hu, w⟩ := r.slots j d hj
      exact ⟨u, hu, ow_mono (Same.refl _) w fun q hq => upd_ne (hoff j q z hq)⟩
  · by_cases z : q = p
    · subst z
      exact ⟨hF, by rw [upd_same]; simp, (r.off j q hq).2.2⟩
    · rw [upd_ne z]; exact r.off j q hq
theorem c_app (i : Nat) (h : DE K c O te m) (hk : lsish (O.getD i .sh) = true := by rfl) : DC K c Ob O (tDrop (tBM K "list" rAppend (tVar i) (tCons te tNil))) (sApp i m) O := ⟨fun {F H σ fps ds} r E p => by
  unfold sApp at p
  split at p
  · rename_i ys hy
    obtain ⟨v, hv, ow⟩ := r.slots i _ hy
    obtain ⟨q0, zs, es, rfl, _, hq0, _, _⟩ := ow_ls hk ow
    refine ⟨_, hv, .inl ⟨rfl, zs, SqL.of hq0⟩, ?_⟩
    cases e : m ds with
    | no => rw [e] at p; exact p.elim
    | ok d s' =>
      rw [e] at p
      dsimp only at p
      split at p
      · rename_i xs hx
        split at p
        · rename_i hz
          refine h.run r e _ fun F1 H1 fps1 w s1 r1 dp => ?_
          obtain ⟨v1, hv1, ow1⟩ := r1.slots i _ hx
          obtain ⟨q1, zs1, es1, rfl, e2, hq1, hfp, al⟩ := ow_ls hk ow1
          cases e2
          have e3 : q1 = q0 := by rw [hv] at hv1; cases hv1; rfl
          subst e3
          refine ⟨_, zs1, w, rfl, rfl, hq1, by rw [dpa_len al]; exact of_decide_eq_true hz, ?_⟩
          exact p F1 _ σ fps1 s1 (r1.mut hk ⟨_, hx⟩ hv hfp (dpa_append al (.cons dp .nil)))
        · exact p.elim
      · exact p.elim
  · exact p.elim⟩
theorem c_put (i : Nat) {ti : TE} {mi : M D} (h : DE K c O te m) (hi : DE K c O ti mi) (hk : lsish (O.getD i .sh) = true := by rfl) : DC K c Ob O (tAsg te (gSub (tVar i) ti rSetL)) (sPut i mi m) O := ⟨fun {F H σ fps ds} r E p => by
  unfold sPut at p
  cases e : m ds with
  | no => rw [e] at p; exact p.elim
  | ok d s' =>
    rw [e] at p
    dsimp only at p
    refine h.run r e _ fun F1 H1 fps1 w s1 r1 dp => ?_
    split at p
    · rename_i ys hy
      obtain ⟨v, hv, ow⟩ := r1.slots i _ hy
      refine ⟨_, hv, ?_⟩
      cases e2 : mi s' with
      | no => rw [e2] at p; exact p.elim
      | ok k s2 =>
        rw [e2] at p
        dsimp only at p
        refine hi.run r1 e2 _ fun F2 H2 fps2 w2 s2 r2 dp2 => ?_
        split at p
        · rename_i kk xs hx
          cases dp2
          split at p
          · rename_i j hj
            obtain ⟨v1, hv1, ow1⟩ := r2.slots i _ hx
            obtain ⟨q1, zs1, es1, rfl, e3, hq1, hfp, al⟩ := ow_ls hk ow1
            cases e3
            have e4 : v = .ref q1 := by rw [hv] at hv1; cases hv1; rfl
            subst e4
            refine ⟨q1, zs1, kk, j, rfl, rfl, hq1, by rw [dpa_len al]; exact hj, ?_⟩
            exact p F2 _ σ fps2 (s1.trans s2) (r2.mut hk ⟨_, hx⟩ hv hfp (dpa_set (dp_mono s2 dp) j al))
          · exact p.elim
        · exact p.elim
    · exact p.elim⟩
/-! ### targets -/
structure DG (K : Fg) (c : Ctx) (O : List Kd) (g : TG) (mg : MG) : Prop where
  run : ∀ {F H : Hp} {σ : St} {fps : Nat → List Addr} {ds ds' : DS} {v : V} {d : D}, Rel K c O F H σ fps ds → Dp K F v d → mg d ds = some ds' → ∀ Q : St → Hp → Prop,
    (∀ σ' fps', Rel K c O F H σ' fps' ds' → Q σ' H) → g v σ H Q
structure DGs (K : Fg) (c : Ctx) (O : List Kd) (g : TGs) (mg : List D → DS → Option DS) : Prop where
  run : ∀ {F H : Hp} {σ : St} {fps : Nat → List Addr} {ds ds' : DS} {vs : List V} {es : List D}, Rel K c O F H σ fps ds → DpAll K F vs es → mg es ds = some ds' → ∀ Q : St → Hp → Prop,
    (∀ σ' fps', Rel K c O F H σ' fps' ds' → Q σ' H) → g vs σ H Q
theorem g_name (i : Nat) (hi : O[i]? = some .sh := by rfl) : DG K c O (gName i) (gN i) := ⟨fun {F H σ fps ds ds' v d} r dp e Q q => by
  cases e
  have hl : i < O.length := (List.getElem?_eq_some_iff.mp hi).1
  have r' := r.put hl (by rw [hi]; rfl) (k := .sh) (v := v) (d := d) (fpv := []) ⟨rfl, dp⟩ (fun q hq => absurd hq (by simp)) (by simp)
  have eO : O.set i .sh = O := by
    apply List.ext_getElem? 
    intro j
    by_cases z : j = i
    · subst z; rw [List.getElem?_set_self hl, hi]
    · rw [List.getElem?_set_ne (Ne.symm z)]
  rw [eO] at r'
  exact q _ _ r'⟩
theorem gs_nil : DGs K c O gNil gE := ⟨fun {F H σ fps ds ds' vs es} r al e Q q => by
  cases al with
  | nil => cases e; exact ⟨rfl, q _ _ r⟩
  | cons _ _ => cases e⟩
theorem gs_cons {g : TG} {gs : TGs} {a : MG} {b : List D → DS → Option DS} (h1 : DG K c O g a) (h2 : DGs K c O gs b) : DGs K c O (gCons g gs) (gC a b) := ⟨fun {F H σ fps ds ds' vs es} r al e Q q => by
  cases al with
  | nil => cases e
  | cons dp al =>
    unfold gC at e
    dsimp only at e
    split at e
    · rename_i s' hs
      exact ⟨_, _, rfl, h1.run r dp hs _ fun σ1 fps1 r1 => h2.run r1 al e Q q⟩
    · cases e⟩
theorem g_tup {n : Nat} {gs : TGs} {b : List D → DS → Option DS} (h : DGs K c O gs b) : DG K c O (gTup K n gs) (gT n b) := ⟨fun {F H σ fps ds ds' v d} r dp e Q q => by
  unfold gT at e
  split at e
  · split at e
    · rename_i hn
      cases dp with
      | tup hq al => exact ⟨_, _, rfl, sqT_mono r.sub hq, by rw [dpa_len al]; exact hn, h.run r al e Q q⟩
    · cases e
  · cases e⟩
theorem c_asg {g : TG} {mg : MG} (h : DE K c O te m) (hg : DG K c O g mg) : DC K c Ob O (tAsg te g) (sAsg m mg) O := ⟨fun {F H σ fps ds} r E p => by
  unfold sAsg at p
  cases e : m ds with
  | no => rw [e] at p; exact p.elim
  | ok d s' =>
    rw [e] at p
    dsimp only at p
    refine h.run r e _ fun F1 H1 fps1 w s1 r1 dp => ?_
    split at p
    · rename_i s2 hs
      exact hg.run r1 dp hs _ fun σ2 fps2 r2 => p F1 H1 σ2 fps2 s1 r2
    · exact p.elim⟩
/-! ### loops -/
def Walks (K : Fg) (F : Hp) (J : It) (xs : List D) : Prop := ∀ F1 H1 i, Same F F1 → Same F1 H1 →
  (∀ d, xs[i]? = some d → J.go i H1 ∧ ∀ x H2, J.yld i H1 x H2 → ∃ F2, Grow F1 H1 F2 H2 ∧ Dp K F2 x d) ∧ (i = xs.length → J.stop i H1)
structure DI (K : Fg) (c : Ctx) (O : List Kd) (w : TI) (m : M (List D)) : Prop where
  run : ∀ {F H : Hp} {σ : St} {fps : Nat → List Addr} {ds ds' : DS} {xs : List D}, Rel K c O F H σ fps ds → m ds = .ok xs ds' → ∀ R : It → Hp → Prop,
    (∀ F' H' fps' J, Same F F' → Rel K c O F' H' σ fps' ds' → Walks K F' J xs → R J H') → w σ H R
theorem c_for {wi : TI} {mi : M (List D)} {g : TG} {mg : MG} {tb : TS} {b : MS} (hi : DI K c O wi mi) (hg : DG K c O g mg) (hb : DC K c O O tb b O) : DC K c Ob O (tFor wi g tb) (sFor mi mg b) O := ⟨fun {F H σ fps ds} r E p => by
  unfold sFor at p
  cases e : mi ds with
  | no => rw [e] at p; exact p.elim
  | ok xs s' =>
    rw [e] at p
    dsimp only at p
    refine hi.run r e _ fun F1 H1 fps1 J s1 r1 wk => ?_
    refine ⟨fun i m σ H => m + i = xs.length ∧ ∃ F' fps' ds', Same F1 F' ∧ Rel K c O F' H σ fps' ds' ∧ Post K c Ob O F' E (loop mg b (xs.drop i) ds'), ⟨xs.length, by omega, F1, fps1, s', Same.refl _, r1, p.mono s1⟩, ?_⟩
    rintro i m σ2 H2 ⟨hm, F2, fps2, ds2, s2, r2, p2⟩
    obtain ⟨w1, w2⟩ := wk F2 H2 i s2 r2.sub
    cases hx : xs[i]? with
    | none =>
      have hl : xs.length ≤ i := List.getElem?_eq_none_iff.mp hx
      have hi' : i = xs.length := by omega
      refine .inl ⟨w2 hi', ?_⟩
      rw [List.drop_of_length_le hl] at p2
      exact p2 F2 H2 σ2 fps2 (Same.refl _) r2
    | some d =>
      obtain ⟨go, yl⟩ := w1 d hx
      have hlt : i < xs.length := (List.getElem?_eq_some_iff.mp hx).1
      have hd : xs.drop i = d :: xs.drop (i + 1) := by
        rw [List.drop_eq_getElem_cons hlt]
        congr 1
        rw [List.getElem?_eq_getElem hlt] at hx
        exact Option.some.inj hx
      rw [hd] at p2
      unfold loop at p2
      refine .inr ⟨go, fun σ' H' => ∃ F' fps' ds', Same F1 F' ∧ Rel K c O F' H' σ' fps' ds' ∧ Post K c Ob O F' E (loop mg b (xs.drop (i + 1)) ds'), fun σ' H' h => ⟨m - 1, by omega, by omega, h⟩, fun x H3 hy => ?_⟩
      obtain ⟨F3, gr, dp⟩ := yl x H3 hy
      obtain ⟨r3, s3⟩ := gr.rel r2
      split at p2
      · rename_i ds3 hg3
        refine hg.run r3 dp hg3 _ fun σ4 fps4 r4 => ?_
        refine hb.run r4 _ ?_
        have s13 : Same F1 F3 := s2.trans s3
        have p3 := p2.mono s3
        cases eb : b ds3 with
        | nx s4 => rw [eb] at p3; exact fun F5 H5 σ5 fps5 s5 r5 => ⟨F5, fps5, s4, s13.trans s5, r5, p3.mono s5⟩
        | ct s4 => rw [eb] at p3; exact fun F5 H5 σ5 fps5 s5 r5 => ⟨F5, fps5, s4, s13.trans s5, r5, p3.mono s5⟩
        | bk s4 => rw [eb] at p3; exact fun F5 H5 σ5 fps5 s5 r5 => p3 F5 H5 σ5 fps5 s5 r5
        | rt d s4 => rw [eb] at p3; exact p3
        | no => rw [eb] at p3; exact p3.elim
      · exact p2.elim⟩
theorem c_while {tc : TT} {mt : M Bool} {tb : TS} {b : MS} (hc : DT K c O tc mt) (hb : DC K c O O tb b O) : DC K c Ob O (tWhile tc tb) (sWhile mt b) O := ⟨fun {F H σ fps ds} r E p => by
  have hx : ∃ n, wl mt b n ds ≠ .no := by
    refine Classical.byContradiction fun z => ?_
    unfold sWhile at p
    rw [dif_neg z] at p
    exact p.elim
  obtain ⟨n, hn⟩ := hx
  rw [sWhile_of n rfl hn] at p
  refine ⟨fun m σ H => ∃ F' fps' ds', Rel K c O F' H σ fps' ds' ∧ Post K c Ob O F' E (wl mt b m ds'), ⟨n, F, fps, ds, r, p⟩, ?_⟩
  rintro m σ2 H2 ⟨F2, fps2, ds2, r2, p2⟩
  cases m with
  | zero => exact p2.elim
  | succ m =>
    unfold wl at p2
    cases e : mt ds2 with
    | no => rw [e] at p2; exact p2.elim
    | ok v s' =>
      rw [e] at p2
      refine hc.run r2 e _ fun F3 H3 fps3 s3 r3 => ?_
      cases v with
      | false => exact iteF (p2 F3 H3 σ2 fps3 s3 r3)
      | true =>
        refine iteT ⟨fun σ' H' => ∃ F' fps' ds', Rel K c O F' H' σ' fps' ds' ∧ Post K c Ob O F' E (wl mt b m ds'), fun σ' H' h => ⟨m, by omega, h⟩, ?_⟩
        dsimp only at p2
        refine hb.run r3 _ ?_
        have p3 := p2.mono s3
        cases eb : b s' with
        | nx s4 => rw [eb] at p3; exact fun F5 H5 σ5 fps5 s5 r5 => ⟨F5, fps5, s4, r5, p3.mono s5⟩
        | ct s4 => rw [eb] at p3; exact fun F5 H5 σ5 fps5 s5 r5 => ⟨F5, fps5, s4, r5, p3.mono s5⟩
        | bk s4 => rw [eb] at p3; exact fun F5 H5 σ5 fps5 s5 r5 => p3 F5 H5 σ5 fps5 s5 r5
        | rt d s4 => rw [eb] at p3; exact p3
        | no => rw [eb] at p3; exact p3.elim⟩
end
end Z
set_option Elab.async false
set_option linter.all false
set_option maxRecDepth 100000
namespace Z
open PySem L2
inductive RF where
  | ok (d : D) (as : List D)
  | no
abbrev FD := List D → RF
def look (s : DS) (i : Nat) : Option D := match s[i]? with
  | some (some d) => some d
  | _ => none
def entry (N : Nat) (args : List D) : DS := args.map some ++ List.replicate (N - args.length) none
def leave (n : Nat) (d : D) (s : DS) : RF := match (List.range n).mapM (look s) with
  | some as => .ok d as
  | none => .no
def fnD (N n : Nat) (rk : Kd) (b : MS) : FD := fun args => if args.length = n then (match b (entry N args) with
  | .rt d s => leave n d s
  | .nx s => if rk = .sh then leave n .none s else .no
  | _ => .no) else .no
structure ArgR (K : Fg) (ps : List Kd) (F H : Hp) (vs : List V) (fps : Nat → List Addr) (args : List D) : Prop where
  lv : vs.length = ps.length
  la : args.length = ps.length
  sub : Same F H
  ow : ∀ i d, args[i]? = some d → ∃ v, vs[i]? = some v ∧ Ow K F H (ps.getD i .sh) v d (fps i)
  off : ∀ i q, q ∈ fps i → F q = none ∧ H q ≠ none ∧ isPm ps[i]? = true
  nd : ∀ i, (fps i).Nodup
  dj : ∀ i j, i ≠ j → ∀ q, q ∈ fps i → q ∉ fps j
structure OutR (K : Fg) (ps : List Kd) (rk : Kd) (F H F' H' : Hp) (vs : List V) (fps fps' : Nat → List Addr) (args' : List D) (v : V) (d : D) (fpv : List Addr) : Prop where
  ext : Same F F'
  sub : Same F' H'
  keep : ∀ b o, H b = some o → (∀ i, b ∉ fps i) → H' b = some o
  live : ∀ b, H' b = none → H b = none
  new : ∀ b o, F' b = some o → F b = some o ∨ H b = none
  ow : ∀ i k e, ps[i]? = some (.pm k) → args'[i]? = some e → ∃ u, vs[i]? = some u ∧ Ow K F' H' k u e (fps' i)
  off : ∀ i q, isPm ps[i]? = true → q ∈ fps' i → F' q = none ∧ H' q ≠ none ∧ (H q = none ∨ ∃ j, q ∈ fps j)
  nd : ∀ i, (fps' i).Nodup
  dj : ∀ i j, i ≠ j → ∀ q, q ∈ fps' i → q ∉ fps' j
  res : Ow K F' H' rk v d fpv
  roff : ∀ q ∈ fpv, F' q = none ∧ H' q ≠ none ∧ H q = none ∧ ∀ i, ps[i]?.isSome = true → q ∉ fps' i
  rnd : fpv.Nodup
def spD (K : Fg) (f : FD) (ps : List Kd) (rk : Kd) : Sp := fun vs H Q _ => ∃ (F : Hp) (fps : Nat → List Addr) (args args' : List D) (d : D), ArgR K ps F H vs fps args ∧ f args = .ok d args' ∧
  ∀ F' H' fps' v fpv, OutR K ps rk F H F' H' vs fps fps' args' v d fpv → Q v H'
theorem mapM_get {s : DS} : ∀ {l : List Nat} {as : List D} {i : Nat} {d : D}, l.mapM (look s) = some as → as[i]? = some d → ∃ j, l[i]? = some j ∧ look s j = some d
  | [], as, i, d, h, e => by cases h; simp at e
  | j :: l, as, i, d, h, e => by
    rw [List.mapM_cons] at h
    cases e1 : look s j with
    | none => rw [e1] at h; cases h
    | some x =>
      cases e2 : l.mapM (look s) with
      | none => rw [e1, e2] at h; cases h
      | some xs =>
        rw [e1, e2] at h
        cases h
        cases i with
        | zero => cases e; exact ⟨j, rfl, e1⟩
        | succ i => exact mapM_get (l := l) e2 (by simpa using e)
theorem look_some {s : DS} {i : Nat} {d : D} (h : look s i = some d) : s[i]? = some (some d) := by
  unfold look at h
  split at h
  · rename_i e; cases h; exact e
  · cases h
section
variable {K : Fg} {ps : List Kd} {rk : Kd}
/-- a def's body keeps its meaning -/
theorem body_ok {t : TS} {b : MS} {N : List Str} {O0 O1 : List Kd} {vs : List V} {H : Hp} {Q : VK} (hO : O0 = ps ++ List.replicate (N.length - ps.length) .sh)
    (h : ∀ c : Ctx, c.ps = ps → c.rk = rk → DC K c [] O0 t b O1) (E : XK) (sp : spD K (fnD N.length ps.length rk b) ps rk vs H Q E) (hN : ps.length ≤ N.length) : t { nx := fun _ H' => Q .non H', rt := Q } (L2.start N vs) H := by
  obtain ⟨F, fps, args, args', d, A, e, q⟩ := sp
  let c : Ctx := { F0 := F, H0 := H, own := fun q => ∃ i, q ∈ fps i, ps := ps, rk := rk, arg := fun i => vs.getD i .non }
  have hO0 : ∀ i, i < ps.length → O0[i]? = ps[i]? := fun i hi => by rw [hO, List.getElem?_append_left hi]
  have hpl : ∀ i, isPm ps[i]? = true → i < ps.length := fun i hi => by
    cases Nat.lt_or_ge i ps.length with
    | inl h => exact h
    | inr h => rw [List.getElem?_eq_none h] at hi; cases hi
  have hst : ∀ i v, vs[i]? = some v → (L2.start N vs)[i]? = some (some v) := fun i v hv => by
    unfold L2.start
    have hi : i < vs.length := (List.getElem?_eq_some_iff.mp hv).1
    rw [List.getElem?_append_left (by simpa using hi), List.getElem?_map, hv]
    rfl
  have hr : Rel K c O0 F H (L2.start N vs) fps (entry N.length args) := by
    refine ⟨A.sub, Same.refl _, fun b o e _ => e, fun b e => e, fun b o e => .inl e, fun i d' hd => ?_, fun i q hq => ?_, A.nd, A.dj, fun i k hk => ?_, ?_⟩
    · have hi : args[i]? = some d' := by
        unfold entry at hd
        by_cases hi : i < args.length
        · rw [List.getElem?_append_left (by simpa using hi), List.getElem?_map] at hd
          cases z : args[i]? with
          | none => rw [z] at hd; cases hd
          | some x => rw [z] at hd; cases hd; rfl
        · rw [List.getElem?_append_right (by simpa using hi), List.getElem?_replicate] at hd
          split at hd <;> cases hd
      obtain ⟨v, hv, ow⟩ := A.ow i d' hi
      refine ⟨v, hst i v hv, ?_⟩
      have hl : i < ps.length := by rw [← A.la]; exact (List.getElem?_eq_some_iff.mp hi).1
      rw [List.getD_eq_getElem?_getD, hO0 i hl, ← List.getD_eq_getElem?_getD]
      exact ow
    · obtain ⟨h1, h2, h3⟩ := A.off i q hq
      exact ⟨h1, h2, .inr ⟨⟨i, hq⟩, by rw [hO0 i (hpl i h3)]; exact h3⟩⟩
    · have hl : i < ps.length := (List.getElem?_eq_some_iff.mp hk).1
      refine ⟨by rw [hO0 i hl]; exact hk, ?_⟩
      have hv : i < vs.length := by rw [A.lv]; exact hl
      have e1 : vs[i]? = some (vs.getD i .non) := by rw [List.getD_eq_getElem?_getD, List.getElem?_eq_getElem hv]; rfl
      exact hst i _ e1
    · unfold L2.start entry
      rw [List.length_append, List.length_append, List.length_map, List.length_map, List.length_replicate, List.length_replicate, A.lv, A.la]
  refine (h c rfl rfl).run hr _ ?_
  unfold fnD at e
  rw [if_pos A.la] at e
  have out : ∀ {d' : D} {s : DS} {F' H' : Hp} {σ' : St} {fps' : Nat → List Addr} {O'' : List Kd} {v : V} {fpv : List Addr}, leave ps.length d' s = .ok d args' → Rel K c O'' F' H' σ' fps' s → Ow K F' H' rk v d' fpv →
      (∀ q ∈ fpv, F' q = none ∧ H' q ≠ none ∧ H q = none ∧ ∀ i, ps[i]?.isSome = true → q ∉ fps' i) → fpv.Nodup → Q v H' := fun {d' s F' H' σ' fps' O'' v fpv} hl r' ow hf nd => by
    unfold leave at hl
    split at hl
    · rename_i as has
      cases hl
      refine q F' H' fps' v fpv ⟨r'.base, r'.sub, fun b o hb hn => r'.keep b o hb (fun ⟨i, hi⟩ => hn i hi), r'.live, r'.new, fun i k e he hae => ?_, fun i q' hi hq => ?_, r'.nd, r'.dj, ow, hf, nd⟩
      · obtain ⟨j, hj, lk⟩ := mapM_get has hae
        have hij : j = i := by
          rw [List.getElem?_range] at hj
          · cases hj; rfl
          · exact (List.getElem?_eq_some_iff.mp he).1
        subst hij
        obtain ⟨u, hu, w⟩ := r'.slots j e (look_some lk)
        obtain ⟨p1, p2⟩ := r'.par j k he
        rw [p2] at hu
        cases hu
        have hv : j < vs.length := by rw [A.lv]; exact (List.getElem?_eq_some_iff.mp he).1
        have ev : vs[j]? = some (vs.getD j .non) := by rw [List.getD_eq_getElem?_getD, List.getElem?_eq_getElem hv]; rfl
        refine ⟨_, ev, ?_⟩
        rw [List.getD_eq_getElem?_getD, p1] at w
        exact w
      · obtain ⟨h1, h2, h3⟩ := r'.off i q' hq
        refine ⟨h1, h2, ?_⟩
        rcases h3 with h3 | ⟨h3, _⟩
        · exact .inl h3
        · exact .inr h3
    · cases hl
  cases eb : b (entry N.length args) with
  | rt d' s =>
    rw [eb] at e
    exact fun F' H' σ' fps' O'' v fpv s' r' ow hf nd => out e r' ow hf nd
  | nx s =>
    rw [eb] at e
    dsimp only at e
    split at e
    · rename_i hk
      exact fun F' H' σ' fps' s' r' => out (fpv := []) e r' (by rw [hk]; exact ⟨rfl, .non⟩) (fun q hq => absurd hq (by simp)) (by simp)
    · cases e
  | bk s => rw [eb] at e; cases e
  | ct s => rw [eb] at e; cases e
  | no => rw [eb] at e; cases e
theorem spD_len {f : FD} {vs : List V} {H : Hp} {Q : VK} {E : XK} (h : spD K f ps rk vs H Q E) : vs.length = ps.length := by
  obtain ⟨_, _, _, _, _, A, _⟩ := h
  exact A.lv
/-! ### calls -/
section
variable {c : Ctx} {O : List Kd} {F H F' H' : Hp} {σ : St} {fps fps' gps gps' : Nat → List Addr} {ds : DS} {args' : List D} {vs : List V} {v : V} {d : D} {fpv : List Addr}
/-- behind a call that changes nothing of one's own -/
theorem Rel.call0 (r : Rel K c O F H σ fps ds) (o : OutR K ps rk F H F' H' vs (fun _ => []) gps' args' v d fpv) : Rel K c O F' H' σ fps ds := by
  have hk : ∀ b u, H b = some u → H' b = some u := fun b u e => o.keep b u e (fun _ => by simp)
  have hF : ∀ q, F q = none → H q ≠ none → F' q = none := fun q h1 h2 => by
    cases z : F' q with
    | none => rfl
    | some u =>
      rcases o.new q u z with h | h
      · rw [h1] at h; cases h
      · exact absurd h h2
  refine ⟨o.sub, r.base.trans o.ext, fun b u e n => hk b u (r.keep b u e n), fun b e => r.live b (o.live b e), fun b u e => ?_, fun i e he => ?_, fun i q hq => ?_, r.nd, r.dj, r.par, r.len⟩
  · rcases o.new b u e with h | h
    · exact r.new b u h
    · exact .inr (r.live b h)
  · obtain ⟨w, hw, ow⟩ := r.slots i e he
    refine ⟨w, hw, ow_mono o.ext ow fun q hq => ?_⟩
    cases z : H q with
    | none => exact absurd z (r.off i q hq).2.1
    | some u => exact hk q u z
  · obtain ⟨h1, h2, h3⟩ := r.off i q hq
    refine ⟨hF q h1 h2, fun z => h2 (o.live q z), h3⟩
/-- behind a call that may change the thing in slot j -/
theorem Rel.call1 (r : Rel K c O F H σ fps ds) {j : Nat} {k : Kd} {w : V} {e e' : D} (o : OutR K (.pm k :: ps) rk F H F' H' (w :: vs) (fun i => if i = 0 then fps j else []) gps' (e' :: args') v d fpv)
    (hj : ds[j]? = some (some e)) (hw : σ[j]? = some (some w)) (hk : O.getD j .sh = k ∨ O.getD j .sh = .pm k) : Rel K c O F' H' σ (fun i => if i = j then gps' 0 else fps i) (ds.set j (some e')) := by
  have hkp : ∀ b u, H b = some u → b ∉ fps j → H' b = some u := fun b u e hn => o.keep b u e (fun i => by
    by_cases z : i = 0
    · simp only [z, if_pos]; exact hn
    · simp only [if_neg z]; simp)
  have hF : ∀ q, F q = none → H q ≠ none → F' q = none := fun q h1 h2 => by
    cases z : F' q with
    | none => rfl
    | some u =>
      rcases o.new q u z with h | h
      · rw [h1] at h; cases h
      · exact absurd h h2
  have hl : j < ds.length := (List.getElem?_eq_some_iff.mp hj).1
  have hg : ∀ q, q ∈ gps' 0 → F' q = none ∧ H' q ≠ none ∧ (H q = none ∨ q ∈ fps j) := fun q hq => by
    obtain ⟨h1, h2, h3⟩ := o.off 0 q rfl hq
    refine ⟨h1, h2, ?_⟩
    rcases h3 with h3 | ⟨i, hi⟩
    · exact .inl h3
    · by_cases z : i = 0
      · simp only [z, if_pos] at hi; exact .inr hi
      · simp only [if_neg z] at hi; exact absurd hi (by simp)
  have hdj : ∀ i, i ≠ j → ∀ q, q ∈ gps' 0 → q ∉ fps i := fun i hi q hq hq' => by
    rcases (hg q hq).2.2 with h | h
    · exact (r.off i q hq').2.1 h
    · exact r.dj j i (Ne.symm hi) q h hq'
  refine ⟨o.sub, r.base.trans o.ext, fun b u e n => ?_, fun b e => r.live b (o.live b e), fun b u e => ?_, fun i x hx => ?_, fun i q hq => ?_, fun i => ?_, fun i l hil q hq hq' => ?_, r.par, by rw [List.length_set]; exact r.len⟩
  · refine hkp b u (r.keep b u e n) fun hb => ?_
    rcases (r.off j b hb).2.2 with h | ⟨h, _⟩
    · rw [h] at e; cases e
    · exact n h
  · rcases o.new b u e with h | h
    · exact r.new b u h
    · exact .inr (r.live b h)
  · by_cases z : i = j
    · subst z
      rw [List.getElem?_set_self hl] at hx
      cases hx
      obtain ⟨u, hu, ow⟩ := o.ow 0 k e' rfl rfl
      cases hu
      refine ⟨w, hw, ?_⟩
      simp only [if_pos]
      rcases hk with h | h
      · rw [h]; exact ow
      · rw [h]; exact ow
    · rw [List.getElem?_set_ne (Ne.symm z)] at hx
      obtain ⟨u, hu, ow⟩ := r.slots i x hx
      refine ⟨u, hu, ?_⟩
      simp only [if_neg z]
      refine ow_mono o.ext ow fun q hq => ?_
      cases y : H q with
      | none => exact absurd y (r.off i q hq).2.1
      | some u => exact hkp q u y fun hb => r.dj i j z q hq hb
  · by_cases z : i = j
    · subst z
      simp only [if_pos] at hq
      obtain ⟨h1, h2, h3⟩ := hg q hq
      refine ⟨h1, h2, ?_⟩
      rcases h3 with h3 | h3
      · exact .inl (r.live q h3)
      · exact (r.off i q h3).2.2
    · simp only [if_neg z] at hq
      obtain ⟨h1, h2, h3⟩ := r.off i q hq
      exact ⟨hF q h1 h2, fun y => h2 (o.live q y), h3⟩
  · by_cases z : i = j
    · simp only [z, if_pos]; exact o.nd 0
    · simp only [if_neg z]; exact r.nd i
  · by_cases z : i = j
    · by_cases z' : l = j
      · exact hil (z.trans z'.symm)
      · simp only [z, if_pos] at hq
        simp only [if_neg z'] at hq'
        exact hdj l z' q hq hq'
    · simp only [if_neg z] at hq
      by_cases z' : l = j
      · simp only [z', if_pos] at hq'
        exact hdj i z q hq' hq
      · simp only [if_neg z'] at hq'
        exact r.dj i l hil q hq hq'
theorem args_sh {es : List D} (hs : ps.all (· == .sh) = true) (sF : Same F H) (al : DpAll K F vs es) (hl : es.length = ps.length) : ArgR K ps F H vs (fun _ => []) es := by
  refine ⟨(dpa_len al).trans hl, hl, sF, fun i d' hd => ?_, fun i q hq => absurd hq (by simp), fun _ => by simp, fun _ _ _ _ hq => absurd hq (by simp)⟩
  obtain ⟨u, hu, dp⟩ := dpa_get al hd
  have : ps.getD i .sh = .sh := by
    rw [List.getD_eq_getElem?_getD]
    cases z : ps[i]? with
    | none => rfl
    | some k =>
      have := List.all_eq_true.mp hs k (List.mem_of_getElem? z)
      simpa using this
  exact ⟨u, hu, by rw [this]; exact ⟨rfl, dp⟩⟩
theorem args_o {es : List D} {k : Kd} {w : V} {e : D} {fp : List Addr} (hs : ps.all (· == .sh) = true) (sF : Same F H) (al : DpAll K F vs es) (hl : es.length = ps.length) (ow : Ow K F H k w e fp) (hf : ∀ q ∈ fp, F q = none ∧ H q ≠ none) (nd : fp.Nodup) :
    ArgR K (.pm k :: ps) F H (w :: vs) (fun i => if i = 0 then fp else []) (e :: es) := by
  have A := args_sh hs sF al hl
  refine ⟨by simp only [List.length_cons, A.lv], by simp only [List.length_cons, hl], sF, fun i d' hd => ?_, fun i q hq => ?_, fun i => ?_, fun i j hij q hq hq' => ?_⟩
  · cases i with
    | zero => cases hd; exact ⟨w, rfl, ow⟩
    | succ i =>
      obtain ⟨u, hu, o⟩ := A.ow i d' (by simpa using hd)
      exact ⟨u, by simpa using hu, by simpa using o⟩
  · by_cases z : i = 0
    · subst z
      simp only [if_pos] at hq
      obtain ⟨h1, h2⟩ := hf q hq
      exact ⟨h1, h2, rfl⟩
    · simp only [if_neg z] at hq
      exact absurd hq (by simp)
  · by_cases z : i = 0
    · simp only [z, if_pos]; exact nd
    · simp only [if_neg z]; simp
  · by_cases z : i = 0
    · by_cases z' : j = 0
      · exact hij (z.trans z'.symm)
      · simp only [if_neg z'] at hq'
        exact absurd hq' (by simp)
    · simp only [if_neg z] at hq
      exact absurd hq (by simp)
end
def mCall (f : FD) (n : Nat) (ml : M (List D)) : M D := bnd ml fun xs => fun s => if xs.length = n then (match f xs with
  | .ok d _ => .ok d s
  | .no => .no) else .no
def mCall1 (f : FD) (n j : Nat) (ml : M (List D)) : M D := fun s => match s[j]? with
  | some (some _) => bnd ml (fun xs => fun s' => match s'[j]? with
    | some (some e) => if xs.length = n then (match f (e :: xs) with
      | .ok d (e' :: _) => .ok d (s'.set j (some e'))
      | _ => .no) else .no
    | _ => .no) s
  | _ => .no
def mCallT (f : FD) (n : Nat) (m0 : M D) (ml : M (List D)) : M D := bnd m0 fun e => bnd ml fun xs => fun s => if xs.length = n then (match f (e :: xs) with
  | .ok d (_ :: _) => .ok d s
  | _ => .no) else .no
section
variable {c : Ctx} {O : List Kd} {tl : TA} {ml : M (List D)} {f : FD} {E : XK} {te : TE} {m : M D}
theorem o_call (h : DA K c O tl ml) (hs : ps.all (· == .sh) = true := by rfl) : DO K c O rk (tCall (spD K f ps rk) [] E tl) (mCall f ps.length ml) := ⟨fun {F H σ fps ds ds' d} r e Q q => by
  obtain ⟨xs, s1, e1, g1⟩ := bnd_ok e
  split at g1
  · rename_i hl
    split at g1
    · rename_i d0 as hf
      cases g1
      refine h.run r e1 _ fun F1 H1 fps1 vs sF r1 al => ?_
      rw [List.append_nil]
      refine ⟨F1, fun _ => [], xs, as, _, args_sh hs r1.sub al hl, hf, fun F' H' fps' v fpv o => ?_⟩
      refine q F' H' fps1 v fpv (sF.trans o.ext) (r1.call0 o) o.res (fun q hq => ?_) o.rnd
      obtain ⟨h1, h2, h3, h4⟩ := o.roff q hq
      exact ⟨h1, h2, r1.live q h3, fun i hi => (r1.off i q hi).2.1 h3⟩
    · cases g1
  · cases g1⟩
theorem o_call1 (j : Nat) {k : Kd} (h : DA K c O tl ml) (hk : O.getD j .sh = k ∨ O.getD j .sh = .pm k) (hs : ps.all (· == .sh) = true := by rfl) : DO K c O rk (tCall (spD K f (.pm k :: ps) rk) [] E (tCons (tVar j) tl)) (mCall1 f ps.length j ml) := ⟨fun {F H σ fps ds ds' d} r e Q q => by
  unfold mCall1 at e
  split at e
  · rename_i e0 he0
    obtain ⟨xs, s1, e1, g1⟩ := bnd_ok e
    obtain ⟨w, hw, _⟩ := r.slots j _ he0
    refine ⟨w, hw, ?_⟩
    split at g1
    · rename_i e2 he2
      split at g1
      · rename_i hl
        split at g1
        · rename_i d0 e' as hf
          cases g1
          refine h.run r e1 _ fun F1 H1 fps1 vs sF r1 al => ?_
          show spD K f (k.pm :: ps) rk ((w :: vs) ++ []) H1 Q E
          rw [List.append_nil]
          obtain ⟨w1, hw1, ow⟩ := r1.slots j _ he2
          rw [hw] at hw1
          cases hw1
          have ow' : Ow K F1 H1 k w e2 (fps1 j) := by
            rcases hk with h | h
            · rw [h] at ow; exact ow
            · rw [h] at ow; exact ow
          refine ⟨F1, fun i => if i = 0 then fps1 j else [], e2 :: xs, e' :: as, _, args_o hs r1.sub al hl ow' (fun q hq => ⟨(r1.off j q hq).1, (r1.off j q hq).2.1⟩) (r1.nd j), hf, fun F' H' fps' v fpv o => ?_⟩
          refine q F' H' _ v fpv (sF.trans o.ext) (r1.call1 o he2 hw hk) o.res (fun q hq => ?_) o.rnd
          obtain ⟨h1, h2, h3, h4⟩ := o.roff q hq
          refine ⟨h1, h2, r1.live q h3, fun i hi => ?_⟩
          by_cases z : i = j
          · simp only [z, if_pos] at hi
            exact h4 0 rfl hi
          · simp only [if_neg z] at hi
            exact (r1.off i q hi).2.1 h3
        · cases g1
      · cases g1
    · cases g1
  · cases e⟩
/-- what was made for one's own is read alone -/
theorem DO.e (h : DO K c O (.ls .sh) te m) : DE K c O te m := ⟨fun {F H σ fps ds ds' d} r e Q q => by
  refine h.run r e _ fun F1 H1 fps1 v fpv sF r1 ow hf nd => ?_
  obtain ⟨p, xs, es, rfl, rfl, hp, rfl, al⟩ := ow_ls rfl ow
  obtain ⟨h1, h2, h3, h4⟩ := hf p (by simp)
  have s2 : Same F1 (upd F1 p (.lst xs)) := same_upd h1
  refine q (upd F1 p (.lst xs)) H1 fps1 _ (sF.trans s2) ⟨fun b o e => ?_, r1.base.trans s2, r1.keep, r1.live, fun b o e => ?_, fun i d hd => ?_, fun i q hq => ?_, r1.nd, r1.dj, r1.par, r1.len⟩ (frz_sh hp al h1)
  · by_cases hb : b = p
    · subst hb; rw [upd_same] at e; rw [hp]; exact e
    · rw [upd_ne hb] at e; exact r1.sub b o e
  · by_cases hb : b = p
    · subst hb; exact .inr h3
    · rw [upd_ne hb] at e; exact r1.new b o e
  · obtain ⟨u, hu, w⟩ := r1.slots i d hd
    exact ⟨u, hu, ow_mono s2 w fun _ _ => rfl⟩
  · have hb : q ≠ p := fun z => by subst z; exact h4 i hq
    rw [upd_ne hb]
    exact r1.off i q hq⟩
theorem DO.sh (h : DO K c O .sh te m) : DE K c O te m := ⟨fun {F H σ fps ds ds' d} r e Q q => h.run r e _ fun F1 H1 fps1 v fpv sF r1 ow hf nd => q F1 H1 fps1 v sF r1 ow.2⟩
/-- the same, seen from here on: all that is no slot's own stays -/
noncomputable def Ctx.from (c : Ctx) (O : List Kd) (F H : Hp) (fps : Nat → List Addr) : Ctx where
  F0 := F
  H0 := fun b => open Classical in if ∃ i, b ∈ fps i ∧ isPm O[i]? = false then none else H b
  own := fun b => ∃ i, b ∈ fps i ∧ isPm O[i]? = true
  ps := c.ps
  rk := c.rk
  arg := c.arg
section
variable {F1 H1 F2 H2 : Hp} {σ : St} {fps1 fps2 : Nat → List Addr} {ds1 ds2 : DS}
theorem from_none {b : Addr} (h : (c.from O F1 H1 fps1).H0 b = none) : (∃ i, b ∈ fps1 i ∧ isPm O[i]? = false) ∨ H1 b = none := by
  by_cases z : ∃ i, b ∈ fps1 i ∧ isPm O[i]? = false
  · exact .inl z
  · right
    have : (c.from O F1 H1 fps1).H0 b = H1 b := if_neg z
    rw [← this]; exact h
theorem from_some {b : Addr} (h : ¬ ∃ i, b ∈ fps1 i ∧ isPm O[i]? = false) : (c.from O F1 H1 fps1).H0 b = H1 b := if_neg h
theorem Rel.focus (r : Rel K c O F1 H1 σ fps1 ds1) : Rel K (c.from O F1 H1 fps1) O F1 H1 σ fps1 ds1 := by
  refine ⟨r.sub, Same.refl _, fun b o e _ => ?_, fun b e => ?_, fun b o e => .inl e, r.slots, fun i q hq => ?_, r.nd, r.dj, r.par, r.len⟩
  · by_cases z : ∃ i, b ∈ fps1 i ∧ isPm O[i]? = false
    · have : (c.from O F1 H1 fps1).H0 b = none := if_pos z
      rw [this] at e; cases e
    · rw [from_some z] at e; exact e
  · by_cases z : ∃ i, b ∈ fps1 i ∧ isPm O[i]? = false
    · exact if_pos z
    · rw [from_some z]; exact e
  · obtain ⟨h1, h2, _⟩ := r.off i q hq
    refine ⟨h1, h2, ?_⟩
    cases z : isPm O[i]? with
    | true => exact .inr ⟨⟨i, hq, z⟩, rfl⟩
    | false => exact .inl (if_pos ⟨i, hq, z⟩)
theorem Rel.unfocus (r : Rel K c O F1 H1 σ fps1 ds1) (r2 : Rel K (c.from O F1 H1 fps1) O F2 H2 σ fps2 ds2) : Rel K c O F2 H2 σ fps2 ds2 := by
  have hn : ∀ b, (c.from O F1 H1 fps1).H0 b = none → c.H0 b = none := fun b h => by
    rcases from_none h with ⟨i, hi, hp⟩ | h
    · rcases (r.off i b hi).2.2 with h | ⟨_, h⟩
      · exact h
      · rw [hp] at h; cases h
    · exact r.live b h
  refine ⟨r2.sub, r.base.trans r2.base, fun b o e n => ?_, fun b e => hn b (r2.live b e), fun b o e => ?_, r2.slots, fun i q hq => ?_, r2.nd, r2.dj, r.par, r2.len⟩
  · have hb : ∀ i, b ∉ fps1 i := fun i hi => by
      rcases (r.off i b hi).2.2 with h | ⟨h, _⟩
      · rw [h] at e; cases e
      · exact n h
    refine r2.keep b o ?_ (fun ⟨i, hi, _⟩ => hb i hi)
    rw [from_some (fun ⟨i, hi, _⟩ => hb i hi)]
    exact r.keep b o e n
  · rcases r2.new b o e with h | h
    · exact r.new b o h
    · exact .inr (hn b h)
  · obtain ⟨h1, h2, h3⟩ := r2.off i q hq
    refine ⟨h1, h2, ?_⟩
    rcases h3 with h3 | ⟨⟨j, hj, _⟩, h3⟩
    · exact .inl (hn q h3)
    · rcases (r.off j q hj).2.2 with h | ⟨h, _⟩
      · exact .inl h
      · exact .inr ⟨h, h3⟩
end
/-- f(new, ..): what is made for the call alone -/
theorem o_callT {k : Kd} (h0 : DO K c O k te m) (h : ∀ c' : Ctx, DA K c' O tl ml) (hs : ps.all (· == .sh) = true := by rfl) : DO K c O rk (tCall (spD K f (.pm k :: ps) rk) [] E (tCons te tl)) (mCallT f ps.length m ml) := ⟨fun {F H σ fps ds ds' d} r e Q q => by
  obtain ⟨e0, s0, e1, g0⟩ := bnd_ok e
  obtain ⟨xs, s1, e2, g1⟩ := bnd_ok g0
  refine h0.run r e1 _ fun F1 H1 fps1 w fpw sF r1 ow hf nd => ?_
  split at g1
  · rename_i hl
    split at g1
    · rename_i d0 e' as hff
      cases g1
      refine (h (c.from O F1 H1 fps1)).run r1.focus e2 _ fun F2 H2 fps2 vs sF2 r2' al => ?_
      have r2 := r1.unfocus r2'
      show spD K f (k.pm :: ps) rk ((w :: vs) ++ []) H2 Q E
      rw [List.append_nil]
      have hH : ∀ q ∈ fpw, (c.from O F1 H1 fps1).H0 q = H1 q := fun q hq => from_some fun ⟨i, hi, _⟩ => (hf q hq).2.2.2 i hi
      have hs2 : ∀ q ∈ fpw, H2 q = H1 q := fun q hq => by
        cases z : H1 q with
        | none => exact absurd z (hf q hq).2.1
        | some o => exact r2'.keep q o (by rw [hH q hq]; exact z) fun ⟨i, hi, _⟩ => (hf q hq).2.2.2 i hi
      have hF2 : ∀ q ∈ fpw, F2 q = none := fun q hq => by
        cases z : F2 q with
        | none => rfl
        | some o =>
          rcases r2'.new q o z with h | h
          · have h' : F1 q = some o := h
            rw [(hf q hq).1] at h'; cases h'
          · rw [hH q hq] at h; exact absurd h (hf q hq).2.1
      have hd2 : ∀ q ∈ fpw, ∀ i, q ∉ fps2 i := fun q hq i hi => by
        rcases (r2'.off i q hi).2.2 with h | ⟨⟨j, hj, _⟩, _⟩
        · rw [hH q hq] at h; exact (hf q hq).2.1 h
        · exact (hf q hq).2.2.2 j hj
      have ow2 : Ow K F2 H2 k w e0 fpw := ow_mono sF2 ow hs2
      refine ⟨F2, fun i => if i = 0 then fpw else [], e0 :: xs, e' :: as, _, args_o hs r2.sub al hl ow2 (fun q hq => ⟨hF2 q hq, by rw [hs2 q hq]; exact (hf q hq).2.1⟩) nd, hff, fun F' H' fps' v fpv o => ?_⟩
      have hkp : ∀ b u, H2 b = some u → b ∉ fpw → H' b = some u := fun b u e hn => o.keep b u e (fun i => by
        by_cases z : i = 0
        · simp only [z, if_pos]; exact hn
        · simp only [if_neg z]; simp)
      have r3 : Rel K c O F' H' σ fps2 ds' := by
        refine ⟨o.sub, r2.base.trans o.ext, fun b u e n => ?_, fun b e => r2.live b (o.live b e), fun b u e => ?_, fun i x hx => ?_, fun i q hq => ?_, r2.nd, r2.dj, r2.par, r2.len⟩
        · refine hkp b u (r2.keep b u e n) fun hb => ?_
          rw [(hf b hb).2.2.1] at e; cases e
        · rcases o.new b u e with h | h
          · exact r2.new b u h
          · exact .inr (r2.live b h)
        · obtain ⟨u, hu, ow⟩ := r2.slots i x hx
          refine ⟨u, hu, ow_mono o.ext ow fun q hq => ?_⟩
          cases y : H2 q with
          | none => exact absurd y (r2.off i q hq).2.1
          | some u => exact hkp q u y fun hb => hd2 q hb i hq
        · obtain ⟨h1, h2, h3⟩ := r2.off i q hq
          refine ⟨?_, fun y => h2 (o.live q y), h3⟩
          cases z : F' q with
          | none => rfl
          | some u =>
            rcases o.new q u z with h | h
            · rw [h1] at h; cases h
            · exact absurd h h2
      refine q F' H' fps2 v fpv ((sF.trans sF2).trans o.ext) r3 o.res (fun q hq => ?_) o.rnd
      obtain ⟨h1, h2, h3, h4⟩ := o.roff q hq
      exact ⟨h1, h2, r2.live q h3, fun i hi => (r2.off i q hi).2.1 h3⟩
    · cases g1
  · cases g1⟩
end
end
end Z
set_option Elab.async false
set_option linter.all false
set_option maxRecDepth 100000
namespace Z
open PySem L2
/-! ### more operations -/
theorem Vw.tupF {K : Fg} {F H : Hp} {v : V} {ds : List D} (h : Vw K F H v (.tuple ds)) : Dp K F v (.tuple ds) := by
  rcases h with h | ⟨_, _, _, _, z, _⟩
  · exact h
  · cases z
/-- list + list, whatever the lists are -/
def rCatL (K : Fg) : R2 := fun x y H Q => ∃ l b xs zs, x = .ref l ∧ y = .ref b ∧ SqL K H l xs ∧ SqL K H b zs ∧ xs.length + zs.length ≤ sizeLine ∧ ∀ p, H p = none → Q (.ref p) (upd H p (.lst (xs ++ zs)))
theorem op_catL {X : Cx} : OpR X (binaryOp .Add) (rCatL X.K) := by
  intro pins s σ H x y v u Q I rx ry h
  obtain ⟨l, b, xs, zs, rfl, rfl, hH, hB, hz, q⟩ := h
  cases rx
  cases ry
  obtain ⟨its, r, ⟨o1, n1, e1, c1, d1, s1⟩, z1⟩ := I.list hH
  obtain ⟨its2, r2, ⟨o2, n2, e2, c2, d2, s2⟩, z2⟩ := I.list hB
  obtain ⟨cls, dd, data, sl⟩ := o1
  obtain ⟨cls2, dd2, data2, sl2⟩ := o2
  simp only at c1 d1 s1 c2 d2 s2
  subst c1 d1 s1 c2 d2 s2
  have ea : its.toArray ++ its2.toArray = (its ++ its2).toArray := by simp
  refine PySem.concat_meets ⟨_, e1, rfl⟩ ⟨_, e2, rfl⟩ PySem.noFill_list_add PySem.seq_list_add PySem.F.slot_list_add PySem.F.entry_list_add (PySem.F.args_list_add_2 _ _) (PyProof.Rows.list_addW l b its.toArray its2.toArray n1 n2 none none sl sl2 (by rw [List.size_toArray, List.size_toArray, ← r.length, ← r2.length]; exact hz)) ⟨e1, e2, ?_⟩
  rw [ea]
  exact ⟨.ref _, _, I.lnew (t' := s.toks) (r.append r2) (by rw [List.length_append]; exact hz), rfl, q _ I.fresh⟩
section
variable {K : Fg}
def rAddU (K : Fg) : R2 := fun x y H Q => (rI0 (fun i j => .int (i + j))) x y H Q ∨ (fun x y H Q => (fun x y H Q => ∃ i j, x = V.str i ∧ y = V.str j ∧ i.length + j.length ≤ sizeLine ∧ Q (V.str (i ++ j)) H) x y H Q ∨ (fun x y H Q => rCatL K x y H Q ∨ rCatA K x y H Q) x y H Q) x y H Q
theorem op_addU {X : Cx} : OpR X (binaryOp .Add) (rAddU X.K) := op_add.or (op_add_str.or (op_catL.or op_catA))
def addD : D → D → Option D
  | .int i, .int j => some (.int (i + j))
  | .str x, .str y => if fits (x.length + y.length) then some (.str (x ++ y)) else none
  | .list xs, .list ys => if fits (xs.length + ys.length) then some (.list (xs ++ ys)) else none
  | .tuple xs, .tuple ys => if fits (xs.length + ys.length) then some (.tuple (xs ++ ys)) else none
  | _, _ => none
theorem g_add : OpG K (rAddU K) addD := fun F H x y dx dy d sF vx vy e Q q => by
  unfold addD at e
  split at e
  · cases e
    rw [vx.int, vy.int]
    exact .inl ⟨_, _, rfl, rfl, q F H _ .refl (.int _)⟩
  · split at e
    · rename_i hf
      cases e
      rw [vx.str, vy.str]
      exact .inr (.inl ⟨_, _, rfl, rfl, fits_of hf, q F H _ .refl (.str _)⟩)
    · cases e
  · split at e
    · rename_i hf
      cases e
      obtain ⟨p, xs, rfl, s1, a1⟩ := vx.lst sF
      obtain ⟨p2, xs2, rfl, s2, a2⟩ := vy.lst sF
      refine .inr (.inr (.inl ⟨p, p2, xs, xs2, rfl, rfl, s1, s2, by rw [dpa_len a1, dpa_len a2]; exact fits_of hf, fun r hr => ?_⟩))
      have hF := sF.free hr
      exact q _ _ _ (.new _ hr) (.lst (SqL.of upd_same) (dpa_mono (same_upd hF) (dpa_append a1 a2)))
    · cases e
  · split at e
    · rename_i hf
      cases e
      obtain ⟨p, xs, rfl, s1, a1⟩ := vx.tup sF
      obtain ⟨p2, xs2, rfl, s2, a2⟩ := vy.tup sF
      have k1 := vx.tupF
      have k2 := vy.tupF
      refine .inr (.inr (.inr ⟨p, p2, xs, xs2, rfl, rfl, s1, s2, by rw [dpa_len a1, dpa_len a2]; exact fits_of hf, fun h => ?_, fun _ h => ?_, fun _ _ r hr => ?_⟩))
      · subst h
        cases a1
        exact q F H _ .refl k2
      · subst h
        cases a2
        rw [List.append_nil] at q
        exact q F H _ .refl k1
      · have hF := sF.free hr
        exact q _ _ _ (.new _ hr) (.tup (SqT.of upd_same) (dpa_mono (same_upd hF) (dpa_append a1 a2)))
    · cases e
  · cases e
/-- is None, is not None -/
def nonB : D → Bool
  | .none => true
  | _ => false
def isN : D → D → Option D
  | x, .none => some (.bool (nonB x))
  | _, _ => none
def notN : D → D → Option D
  | x, .none => some (.bool (!nonB x))
  | _, _ => none
theorem vw_non {F H : Hp} {x : V} {d : D} (h : Vw K F H x d) : decide (x = .non) = nonB d := by
  rcases h with h | ⟨p, xs, ds, rfl, rfl, _, _⟩
  · cases h <;> simp [nonB]
  · simp [nonB]
theorem g_isN : OpG K (fun x y H Q => y = .non ∧ Q (.bl (decide (x = .non))) H) isN := fun F H x y dx dy d sF vx vy e Q q => by
  unfold isN at e
  split at e
  · cases e
    refine ⟨vy.non, ?_⟩
    rw [vw_non vx]
    exact q F H _ .refl (.bl _)
  · cases e
theorem g_notN : OpG K (fun x y H Q => y = .non ∧ Q (.bl (!decide (x = .non))) H) notN := fun F H x y dx dy d sF vx vy e Q q => by
  unfold notN at e
  split at e
  · cases e
    refine ⟨vy.non, ?_⟩
    rw [vw_non vx]
    exact q F H _ .refl (.bl _)
  · cases e
/-! ### built-in calls -/
def lenD : List D → Option D
  | [.list xs] => some (.int xs.length)
  | [.tuple xs] => some (.int xs.length)
  | [.str x] => if fits x.length then some (.int x.length) else none
  | _ => none
theorem g_len : CaG K (fun xs H Q => ∃ x n, xs = [x] ∧ LenV K x H n ∧ Q (.int n) H) lenD := fun F H xs es d sF va e Q q => by
  unfold lenD at e
  split at e
  · cases e
    cases va with
    | cons h t =>
      cases t
      obtain ⟨p, xs, rfl, s1, a1⟩ := h.lst sF
      exact ⟨_, _, rfl, .inl ⟨xs, s1, rfl⟩, by rw [dpa_len a1]; exact q F H _ .refl (.int _)⟩
  · cases e
    cases va with
    | cons h t =>
      cases t
      obtain ⟨p, xs, rfl, s1, a1⟩ := h.tup sF
      exact ⟨_, _, rfl, .inr ⟨xs, s1, rfl⟩, by rw [dpa_len a1]; exact q F H _ .refl (.int _)⟩
  · split at e
    · rename_i hf
      cases e
      cases va with
      | cons h t =>
        cases t
        rw [h.str]
        exact ⟨_, _, rfl, ⟨fits_of hf, rfl⟩, q F H _ .refl (.int _)⟩
    · cases e
  · cases e
def absD : List D → Option D
  | [.int i] => some (.int (if i < 0 then -i else i))
  | _ => none
theorem g_abs : CaG K (fun xs H Q => ∃ i, xs = [.int i] ∧ Q (.int (if i < 0 then -i else i)) H) absD := fun F H xs es d sF va e Q q => by
  unfold absD at e
  split at e
  · cases e
    cases va with
    | cons h t =>
      cases t
      rw [h.int]
      exact ⟨_, rfl, q F H _ .refl (.int _)⟩
  · cases e
def maxD : List D → Option D
  | [.int i, .int j] => some (.int (if j > i then j else i))
  | _ => none
theorem g_max : CaG K (fun xs H Q => ∃ i j, xs = [.int i, .int j] ∧ Q (.int (if j > i then j else i)) H) maxD := fun F H xs es d sF va e Q q => by
  unfold maxD at e
  split at e
  · cases e
    cases va with
    | cons h t =>
      cases t with
      | cons h2 t2 =>
        cases t2
        rw [h.int, h2.int]
        exact ⟨_, _, rfl, q F H _ .refl (.int _)⟩
  · cases e
def minD : List D → Option D
  | [.int i, .int j] => some (.int (if j < i then j else i))
  | _ => none
theorem g_min : CaG K (fun xs H Q => ∃ i j, xs = [.int i, .int j] ∧ Q (.int (if j < i then j else i)) H) minD := fun F H xs es d sF va e Q q => by
  unfold minD at e
  split at e
  · cases e
    cases va with
    | cons h t =>
      cases t with
      | cons h2 t2 =>
        cases t2
        rw [h.int, h2.int]
        exact ⟨_, _, rfl, q F H _ .refl (.int _)⟩
  · cases e
def intD : List D → Option D
  | [.int i] => some (.int i)
  | [.bool k] => some (.int (if k then 1 else 0))
  | _ => none
theorem g_toint : CaG K (fun xs H Q => (∃ i, xs = [.int i] ∧ Q (.int i) H) ∨ ∃ k, xs = [.bl k] ∧ Q (.int (if k then 1 else 0)) H) intD := fun F H xs es d sF va e Q q => by
  unfold intD at e
  split at e
  · cases e
    cases va with
    | cons h t =>
      cases t
      rw [h.int]
      exact .inl ⟨_, rfl, q F H _ .refl (.int _)⟩
  · cases e
    cases va with
    | cons h t =>
      cases t
      rw [h.bl]
      exact .inr ⟨_, rfl, q F H _ .refl (.int _)⟩
  · cases e
def listD : List D → Option D
  | [.list xs] => some (.list xs)
  | [.tuple xs] => some (.list xs)
  | _ => none
abbrev rListOf (K : Fg) : List V → Hp → VK → Prop := fun xs H Q => ∃ p ys, xs = [.ref p] ∧ (SqL K H p ys ∨ SqT K H p ys) ∧ ∀ l, H l = none → Q (.ref l) (upd H l (.lst ys))
theorem g_list : CaG K (rListOf K) listD := fun F H xs es d sF va e Q q => by
  have go : ∀ {p : Addr} {xs : List V} {ds : List D}, DpAll K F xs ds → ∀ l, H l = none → (d = .list ds) → Q (.ref l) (upd H l (.lst xs)) := fun {p xs ds} al l hl z => by
    subst z
    exact q _ _ _ (.new _ hl) (.lst (SqL.of upd_same) (dpa_mono (same_upd (sF.free hl)) al))
  unfold listD at e
  split at e
  · cases e
    cases va with
    | cons h t =>
      cases t
      obtain ⟨p, xs, rfl, s1, a1⟩ := h.lst sF
      exact ⟨p, xs, rfl, .inl s1, fun l hl => go (p := p) a1 l hl rfl⟩
  · cases e
    cases va with
    | cons h t =>
      cases t
      obtain ⟨p, xs, rfl, s1, a1⟩ := h.tup sF
      exact ⟨p, xs, rfl, .inr s1, fun l hl => go (p := p) a1 l hl rfl⟩
  · cases e
def tupleD : List D → Option D
  | [.list xs] => some (.tuple xs)
  | [.tuple xs] => some (.tuple xs)
  | _ => none
theorem g_tuple : CaG K (fun xs H Q => ∃ p ys, xs = [.ref p] ∧ ((SqL K H p ys ∧ ∀ l, H l = none → Q (.ref l) (upd H l (.tup ys))) ∨ (SqT K H p ys ∧ Q (.ref p) H))) tupleD := fun F H xs es d sF va e Q q => by
  unfold tupleD at e
  split at e
  · cases e
    cases va with
    | cons h t =>
      cases t
      obtain ⟨p, xs, rfl, s1, a1⟩ := h.lst sF
      exact ⟨p, xs, rfl, .inl ⟨s1, fun l hl => q _ _ _ (.new _ hl) (.tup (SqT.of upd_same) (dpa_mono (same_upd (sF.free hl)) a1))⟩⟩
  · cases e
    cases va with
    | cons h t =>
      cases t
      obtain ⟨p, xs, rfl, s1, a1⟩ := h.tup sF
      have k1 := h.tupF
      exact ⟨p, xs, rfl, .inr ⟨s1, q F H _ .refl k1⟩⟩
  · cases e
/-- isinstance -/
def tyD : D → String
  | .none => "NoneType"
  | .bool _ => "bool"
  | .int _ => "int"
  | .str _ => "str"
  | .list _ => "list"
  | .tuple _ => "tuple"
  | .dict _ => "dict"
def isiB (T : String) : D → Bool
  | .none => false
  | .bool _ => T == "bool" || T == "int"
  | .int _ => T == "int"
  | .str _ => T == "str"
  | .list _ => T == "list"
  | .tuple _ => T == "tuple"
  | .dict _ => T == "dict"
theorem dp_ty {H : Hp} {v : V} {d : D} (h : Dp K H v d) : TyX K H v (.type (tyD d)) := by
  cases h with
  | non => exact .base .non
  | bl b => exact .base (.bl b)
  | int i => exact .base (.int i)
  | str x => exact .base (.str x)
  | lst h _ =>
    rcases h with (h | ⟨o, h⟩) | ⟨o, _, _, h1, h2, _⟩
    · exact .base (.lst h)
    · exact .base (.frz h)
    · exact .kList h1 h2
  | tup h _ =>
    rcases h with (h | ⟨o, h⟩) | ⟨o, _, _, h1, h2, _⟩
    · exact .base (.tup h)
    · exact .fTuple h
    · exact .kTuple h1 h2
end
def okTy (T : String) : Bool := T == "int" || T == "bool" || T == "str" || T == "list" || T == "tuple"
theorem kit_all (T : String) (h : okTy T = true) (d : D) : kitB (tyD d) T = some (isiB T d) := by
  have hT : T = "int" ∨ T = "bool" ∨ T = "str" ∨ T = "list" ∨ T = "tuple" := by
    simp only [okTy, Bool.or_eq_true, beq_iff_eq] at h
    rcases h with (((h | h) | h) | h) | h
    · exact .inl h
    · exact .inr (.inl h)
    · exact .inr (.inr (.inl h))
    · exact .inr (.inr (.inr (.inl h)))
    · exact .inr (.inr (.inr (.inr h)))
  rcases hT with rfl | rfl | rfl | rfl | rfl <;> cases d <;> simp only [tyD, isiB] <;> decide +kernel
section
variable {K : Fg} {c : Ctx} {O : List Kd} {ta te : TE} {b1 : M BR} {m : M D}
theorem d_isi (T : String) (h : DB K c O ta b1) (hT : okTy T = true := by rfl) : DE K c O (tCB (rIsi K) (tCons ta (tCons (tC (.ty T)) tNil))) (mUn (fun d => some (.bool (isiB T d))) b1) := ⟨fun {F H σ fps ds ds' d} rl e Q q => by
  obtain ⟨x, s1, e1, g2⟩ := bnd_ok e
  refine h.run rl e1 _ fun F1 H1 fps1 v sF r1 bv => ?_
  split at g2
  · rename_i dx hx
    obtain ⟨g3, z⟩ := opt_ok g2
    subst z
    cases g3
    have dp := (Bm.vw r1 bv hx).dp r1.sub
    exact ⟨v, .ty T, _, _, isiB T dx, rfl, .ty T, dp_ty dp, kit_ty (kit_all T hT dx), q F1 H1 fps1 _ sF r1 (.bl _)⟩
  · cases g2⟩
/-! ### slices -/
structure DP (K : Fg) (c : Ctx) (O : List Kd) (t : TO) (m : M (Option Int)) : Prop where
  run : ∀ {F H : Hp} {σ : St} {fps : Nat → List Addr} {ds ds' : DS} {o : Option Int}, Rel K c O F H σ fps ds → m ds = .ok o ds' → ∀ Q : Option Int → Hp → Prop,
    (∀ F' H' fps', Same F F' → Rel K c O F' H' σ fps' ds' → Q o H') → t σ H Q
def mP0 : M (Option Int) := fun s => .ok none s
def mP1 (m : M D) : M (Option Int) := bnd m fun d => opt (match d with | .int i => some (some i) | _ => none)
theorem p_none : DP K c O tNoPart mP0 := ⟨fun r e Q q => by cases e; exact q _ _ _ (Same.refl _) r⟩
theorem p_some (h : DE K c O te m) : DP K c O (tPart te) (mP1 m) := ⟨fun {F H σ fps ds ds' o} r e Q q => by
  obtain ⟨d, s1, e1, g1⟩ := bnd_ok e
  obtain ⟨g2, z⟩ := opt_ok g1
  subst z
  refine h.run r e1 _ fun F1 H1 fps1 v sF r1 dp => ?_
  split at g2
  · cases g2; cases dp; exact ⟨_, rfl, q F1 H1 fps1 sF r1⟩
  · cases g2⟩
def rSlU (K : Fg) : V → Option Int → Option Int → Hp → VK → Prop := fun x lo hi H Q => rSlL K x lo hi H Q ∨ (fun x lo hi H Q => rSlA K x lo hi H Q ∨ rSlS x lo hi H Q) x lo hi H Q
theorem sl_U {X : Cx} : SlR X (rSlU X.K) := sl_list.or (sl_tupA.or sl_str)
def cutD (xs : List D) (lo hi : Option Int) : List D := (xs.drop (HT.sIx xs.length 0 lo)).take (HT.sIx xs.length xs.length hi - HT.sIx xs.length 0 lo)
def slD (x : D) (lo hi : Option Int) : Option D := match x with
  | .list xs => some (.list (cutD xs lo hi))
  | .tuple xs => some (.tuple (cutD xs lo hi))
  | .str z => if fits z.length then some (.str (cutS z lo hi)) else none
  | _ => none
def mSl (a : M BR) (lo hi : M (Option Int)) : M D := bnd a fun x => bnd lo fun l => bnd hi fun h => fun s => match res s x with
  | some d => opt (slD d l h) s
  | none => .no
theorem cut_dp {F : Hp} {xs : List V} {ds : List D} (al : DpAll K F xs ds) (lo hi : Option Int) : DpAll K F (cutV xs lo hi) (cutD ds lo hi) := by
  unfold cutV cutD
  rw [dpa_len al]
  exact dpa_take _ (dpa_drop _ al)
theorem d_sl {tl th : TO} {ml mh : M (Option Int)} (h : DB K c O ta b1) (hl : DP K c O tl ml) (hh : DP K c O th mh) : DE K c O (tSl (rSlU K) ta tl th) (mSl b1 ml mh) := ⟨fun {F H σ fps ds ds' d} r e Q q => by
  obtain ⟨x, s1, e1, g1⟩ := bnd_ok e
  obtain ⟨l, s2, e2, g2⟩ := bnd_ok g1
  obtain ⟨u, s3, e3, g3⟩ := bnd_ok g2
  refine h.run r e1 _ fun F1 H1 fps1 v sF r1 bv => ?_
  refine hl.run r1 e2 _ fun F2 H2 fps2 sF2 r2 => ?_
  refine hh.run r2 e3 _ fun F3 H3 fps3 sF3 r3 => ?_
  split at g3
  · rename_i dx hx
    obtain ⟨g4, z⟩ := opt_ok g3
    subst z
    have vw := Bm.vw r3 (bv.mono (sF2.trans sF3)) hx
    have s13 := (sF.trans sF2).trans sF3
    have fin : ∀ F' H' v, Grow F3 H3 F' H' → Dp K F' v d → Q v H' := fun F' H' v g dp => by
      obtain ⟨r4, s4⟩ := g.rel r3
      exact q F' H' fps3 v (s13.trans s4) r4 dp
    unfold slD at g4
    split at g4
    · cases g4
      obtain ⟨p, xs, rfl, sq, al⟩ := vw.lst r3.sub
      exact .inl ⟨p, xs, rfl, sq, fun p' hp => fin _ _ _ (.new _ hp) (.lst (SqL.of upd_same) (dpa_mono (same_upd (r3.sub.free hp)) (cut_dp al l u)))⟩
    · cases g4
      obtain ⟨p, xs, rfl, sq, al⟩ := vw.tup r3.sub
      have k1 := vw.tupF
      refine .inr (.inl ⟨p, xs, rfl, sq, fun hz => ?_, fun _ p' hp => fin _ _ _ (.new _ hp) (.tup (SqT.of upd_same) (dpa_mono (same_upd (r3.sub.free hp)) (cut_dp al l u)))⟩)
      rw [dpa_len al] at hz
      have hc : ∀ ys : List D, HT.sIx ys.length 0 l = 0 ∧ HT.sIx ys.length ys.length u = ys.length → cutD ys l u = ys := fun ys h => by
        unfold cutD
        rw [h.1, h.2]
        simp
      rw [hc _ hz] at fin
      exact fin _ _ _ .refl k1
    · split at g4
      · rename_i hf
        cases g4
        rw [vw.str]
        exact .inr (.inr ⟨_, rfl, fits_of hf, fin _ _ _ .refl (.str _)⟩)
      · cases g4
    · cases g4
  · cases g3⟩
/-! ### list(range(a, b)) -/
structure DR (K : Fg) (c : Ctx) (O : List Kd) (t : St → Hp → (Int → Int → Hp → Prop) → Prop) (m : M (Int × Int)) : Prop where
  run : ∀ {F H : Hp} {σ : St} {fps : Nat → List Addr} {ds ds' : DS} {a b : Int}, Rel K c O F H σ fps ds → m ds = .ok (a, b) ds' → ∀ Q : Int → Int → Hp → Prop,
    (∀ F' H' fps', Same F F' → Rel K c O F' H' σ fps' ds' → Q a b H') → t σ H Q
def mRg1 (m : M D) : M (Int × Int) := bnd m fun d => opt (match d with | .int n => some (0, n) | _ => none)
def mRg2 (m n : M D) : M (Int × Int) := bnd m fun d => bnd n fun e => opt (match d, e with | .int a, .int b => some (a, b) | _, _ => none)
theorem rg_1 (h : DE K c O te m) : DR K c O (tRg1 te) (mRg1 m) := ⟨fun {F H σ fps ds ds' a b} r e Q q => by
  obtain ⟨d, s1, e1, g1⟩ := bnd_ok e
  obtain ⟨g2, z⟩ := opt_ok g1
  subst z
  refine h.run r e1 _ fun F1 H1 fps1 v sF r1 dp => ?_
  split at g2
  · cases g2; cases dp; exact ⟨_, rfl, q F1 H1 fps1 sF r1⟩
  · cases g2⟩
theorem rg_2 {tb : TE} {n : M D} (h : DE K c O te m) (h2 : DE K c O tb n) : DR K c O (tRg2 te tb) (mRg2 m n) := ⟨fun {F H σ fps ds ds' a b} r e Q q => by
  obtain ⟨d, s1, e1, g1⟩ := bnd_ok e
  obtain ⟨d2, s2, e2, g2⟩ := bnd_ok g1
  obtain ⟨g3, z⟩ := opt_ok g2
  subst z
  refine h.run r e1 _ fun F1 H1 fps1 v sF r1 dp => ?_
  refine h2.run r1 e2 _ fun F2 H2 fps2 v2 sF2 r2 dp2 => ?_
  split at g3
  · cases g3; cases dp; cases dp2; exact ⟨_, _, rfl, rfl, q F2 H2 fps2 (sF.trans sF2) r2⟩
  · cases g3⟩
def rgD (a b : Int) : List D := (List.range (b - a).toNat).map fun i => .int (a + (i : Nat))
def rgC (a b : Int) : Bool := decide (-(2 ^ 62) ≤ a ∧ a < 2 ^ 62 ∧ -(2 ^ 62) ≤ b ∧ b < 2 ^ 62 ∧ (b - a).toNat ≤ 2 ^ 24)
def mLstRg (m : M (Int × Int)) : M D := bnd m fun p => opt (if rgC p.1 p.2 then some (.list (rgD p.1 p.2)) else none)
theorem rg_dp (F : Hp) (a b : Int) : DpAll K F (rgV a b) (rgD a b) := by
  unfold rgV rgD
  generalize (b - a).toNat = n
  have : ∀ l : List Nat, DpAll K F (l.map fun i => V.int (a + (i : Nat))) (l.map fun i => PyData.int (a + (i : Nat))) := fun l => by
    induction l with
    | nil => exact .nil
    | cons x r ih => exact .cons (.int _) ih
  exact this _
theorem o_lstRg {t : St → Hp → (Int → Int → Hp → Prop) → Prop} {mr : M (Int × Int)} (h : DR K c O t mr) : DO K c O (.ls .sh) (tLstRg t) (mLstRg mr) := ⟨fun {F H σ fps ds ds' d} r e Q q => by
  obtain ⟨⟨a, b⟩, s1, e1, g1⟩ := bnd_ok e
  obtain ⟨g2, z⟩ := opt_ok g1
  subst z
  refine h.run r e1 _ fun F1 H1 fps1 sF r1 => ?_
  split at g2
  · rename_i hc
    cases g2
    refine ⟨(of_decide_eq_true hc : -(2 ^ 62) ≤ a ∧ a < 2 ^ 62 ∧ -(2 ^ 62) ≤ b ∧ b < 2 ^ 62 ∧ (b - a).toNat ≤ 2 ^ 24), fun p hp => ?_⟩
    obtain ⟨hF, h0, hq⟩ := r1.fresh hp
    refine q F1 _ fps1 (.ref p) [p] sF (r1.allocO hp _) (ls_ow upd_same (rg_dp F1 a b)) (fun q' hq' => ?_) (by simp)
    have : q' = p := by simpa using hq'
    subst this
    exact ⟨hF, by rw [upd_same]; simp, h0, hq⟩
  · cases g2⟩
/-! ### what a for walks -/
def iSeq (K : Fg) (te : TE) : TI := fun σ H R => iList K te σ H R ∨ iTup K te σ H R
theorem pi_or {X : Cx} {tg e : Expr} {w w' : TI} (h : PI X tg e w) (h' : PI X tg e w') : PI X tg e (fun σ H R => w σ H R ∨ w' σ H R) := ⟨fun pins s σ H R I q => q.elim (h.run pins s σ H R I) (h'.run pins s σ H R I)⟩
theorem pi_seq {X : Cx} {tg e : Expr} {te : TE} (h : PE X e te) : PI X tg e (iSeq X.K te) := pi_or (pi_list h) (pi_tup h)
def mIt (m : M D) : M (List D) := bnd m fun d => opt (match d with | .list xs => some xs | .tuple xs => some xs | _ => none)
theorem walk_l {F : Hp} {a : Addr} {xs : List V} {ds : List D} (hq : SqL K F a xs) (al : DpAll K F xs ds) : Walks K F (Itl K a) ds := fun F1 H1 i s1 s2 => by
  have hq1 : SqL K H1 a xs := sqL_mono (s1.trans s2) hq
  refine ⟨fun d hd => ?_, fun hi => ⟨xs, hq1, by rw [dpa_len al]; omega⟩⟩
  obtain ⟨v, hv, dp⟩ := dpa_get al hd
  exact ⟨⟨xs, v, hq1, hv⟩, fun x H2 hy => ⟨F1, by obtain ⟨e, _⟩ := hy; subst e; exact .refl, by
    obtain ⟨e, hy⟩ := hy
    have := hy xs hq1
    rw [hv] at this
    cases this
    exact dp_mono s1 dp⟩⟩
theorem walk_t {F : Hp} {a : Addr} {xs : List V} {ds : List D} (hq : SqT K F a xs) (al : DpAll K F xs ds) : Walks K F (Itt K a) ds := fun F1 H1 i s1 s2 => by
  have hq1 : SqT K H1 a xs := sqT_mono (s1.trans s2) hq
  refine ⟨fun d hd => ?_, fun hi => ⟨xs, hq1, by rw [dpa_len al]; omega⟩⟩
  obtain ⟨v, hv, dp⟩ := dpa_get al hd
  exact ⟨⟨xs, v, hq1, hv⟩, fun x H2 hy => ⟨F1, by obtain ⟨e, _⟩ := hy; subst e; exact .refl, by
    obtain ⟨e, hy⟩ := hy
    have := hy xs hq1
    rw [hv] at this
    cases this
    exact dp_mono s1 dp⟩⟩
theorem i_seq (h : DE K c O te m) : DI K c O (iSeq K te) (mIt m) := ⟨fun {F H σ fps ds ds' xs} r e R q => by
  obtain ⟨d, s1, e1, g1⟩ := bnd_ok e
  obtain ⟨g2, z⟩ := opt_ok g1
  subst z
  split at g2
  · cases g2
    refine .inl (h.run r e1 _ fun F1 H1 fps1 v sF r1 dp => ?_)
    cases dp with
    | lst hq al => exact ⟨_, rfl, ⟨_, sqL_mono r1.sub hq⟩, q F1 H1 fps1 _ sF r1 (walk_l hq al)⟩
  · cases g2
    refine .inr (h.run r e1 _ fun F1 H1 fps1 v sF r1 dp => ?_)
    cases dp with
    | tup hq al => exact ⟨_, rfl, ⟨_, sqT_mono r1.sub hq⟩, q F1 H1 fps1 _ sF r1 (walk_t hq al)⟩
  · cases g2⟩
def rngC (a b : Int) : Bool := decide (-(2 ^ 62) ≤ a ∧ a < 2 ^ 62 ∧ -(2 ^ 62) ≤ b ∧ b < 2 ^ 62)
def mR1 (m : M (List D)) : M (List D) := bnd m fun ds => opt (match ds with | [.int j] => if rngC 0 j then some (rgD 0 j) else none | _ => none)
def mR2 (m : M (List D)) : M (List D) := bnd m fun ds => opt (match ds with | [.int i, .int j] => if rngC i j then some (rgD i j) else none | _ => none)
theorem rgD_get {a b : Int} {i : Nat} {d : D} (h : (rgD a b)[i]? = some d) : i < (b - a).toNat ∧ d = .int (a + i) := by
  unfold rgD at h
  rw [List.getElem?_map] at h
  cases z : (List.range (b - a).toNat)[i]? with
  | none => rw [z] at h; cases h
  | some j =>
    rw [z] at h
    have hi : i < (b - a).toNat := by
      have := (List.getElem?_eq_some_iff.mp z).1
      simpa using this
    rw [List.getElem?_range hi] at z
    cases z
    cases h
    exact ⟨hi, rfl⟩
theorem rgD_len (a b : Int) : (rgD a b).length = (b - a).toNat := by unfold rgD; rw [List.length_map, List.length_range]
theorem walk_r {F : Hp} (a b : Int) : Walks K F (Itr a (b - a).toNat) (rgD a b) := fun F1 H1 i s1 s2 => by
  refine ⟨fun d hd => ?_, fun hi => by rw [rgD_len] at hi; exact Nat.le_of_eq hi.symm⟩
  obtain ⟨hi, rfl⟩ := rgD_get hd
  refine ⟨hi, fun x H2 hy => ?_⟩
  obtain ⟨e, rfl⟩ := hy
  subst e
  exact ⟨F1, .refl, .int _⟩
theorem i_r1 {tl : TA} {ml : M (List D)} (h : DA K c O tl ml) : DI K c O (iRng1 tl) (mR1 ml) := ⟨fun {F H σ fps ds ds' xs} r e R q => by
  obtain ⟨es, s1, e1, g1⟩ := bnd_ok e
  obtain ⟨g2, z⟩ := opt_ok g1
  subst z
  refine h.run r e1 _ fun F1 H1 fps1 vs sF r1 al => ?_
  split at g2
  · split at g2
    · rename_i hc
      cases g2
      cases al with
      | cons h1 t1 =>
        cases t1
        cases h1
        have hh := of_decide_eq_true hc
        refine ⟨_, rfl, hh.2.2.1, hh.2.2.2, q F1 H1 fps1 _ sF r1 ?_⟩
        have w := walk_r (K := K) (F := F1) 0
        rename_i j
        have w' := w j
        rw [show j - 0 = j by omega] at w'
        exact w'
    · cases g2
  · cases g2⟩
theorem i_r2 {tl : TA} {ml : M (List D)} (h : DA K c O tl ml) : DI K c O (iRng2 tl) (mR2 ml) := ⟨fun {F H σ fps ds ds' xs} r e R q => by
  obtain ⟨es, s1, e1, g1⟩ := bnd_ok e
  obtain ⟨g2, z⟩ := opt_ok g1
  subst z
  refine h.run r e1 _ fun F1 H1 fps1 vs sF r1 al => ?_
  split at g2
  · split at g2
    · rename_i hc
      cases g2
      cases al with
      | cons h1 t1 =>
        cases t1 with
        | cons h2 t2 =>
          cases t2
          cases h1
          cases h2
          have hh := of_decide_eq_true hc
          exact ⟨_, _, rfl, hh, q F1 H1 fps1 _ sF r1 (walk_r _ _)⟩
    · cases g2
  · cases g2⟩
/-- return x, x a list of one's own -/
theorem c_retV {Ob O' : List Kd} (i : Nat) (hk : c.rk = O.getD i .sh) (hi : c.ps[i]? = none) (hp : isPm O[i]? = false := by rfl) : DC K c Ob O (tRet (tVar i)) (sRet (mVar i)) O' := ⟨fun {F H σ fps ds} r E p => by
  unfold sRet mVar at p
  cases z : ds[i]? with
  | none => simp only [z] at p; exact p.elim
  | some o =>
    cases o with
    | none => simp only [z] at p; exact p.elim
    | some d =>
      simp only [z] at p
      obtain ⟨v, hv, ow⟩ := r.slots i d z
      refine ⟨v, hv, p F H σ fps O v (fps i) (Same.refl _) r (by rw [hk]; exact ow) (fun q hq => ?_) (r.nd i)⟩
      obtain ⟨h1, h2, h3⟩ := r.off i q hq
      refine ⟨h1, h2, ?_, fun j hj hq' => ?_⟩
      · rcases h3 with h3 | ⟨_, h3⟩
        · exact h3
        · rw [hp] at h3; cases h3
      · by_cases y : j = i
        · subst y; rw [hi] at hj; cases hj
        · exact r.dj j i y q hq' hq⟩
/-- x op= e -/
def sAug (i : Nat) (f : D → D → Option D) (m : M D) : MS := fun s => match s[i]? with
  | some (some x) => match m s with
    | .ok y s' => match f x y with
      | some z => .nx (s'.set i (some z))
      | none => .no
    | .no => .no
  | _ => .no
theorem c_aug {Ob : List Kd} (i : Nat) {g : Int → Int → Int} (h : DE K c O te m) (hi : i < O.length := by decide) (hp : isPm O[i]? = false := by rfl) (hk : O.getD i .sh = .sh := by rfl) : DC K c Ob O (tAug i te (ipI g)) (sAug i (i2 fun a b => some (.int (g a b))) m) (O.set i .sh) := ⟨fun {F H σ fps ds} r E p => by
  unfold sAug at p
  split at p
  · rename_i x hx
    obtain ⟨v, hv, ow⟩ := r.slots i x hx
    rw [hk] at ow
    refine ⟨v, hv, ?_⟩
    cases e : m ds with
    | no => rw [e] at p; exact p.elim
    | ok y s' =>
      rw [e] at p
      dsimp only at p
      refine h.run r e _ fun F1 H1 fps1 w s1 r1 dp => ?_
      split at p
      · rename_i z hz
        unfold i2 at hz
        split at hz
        · cases hz
          obtain ⟨_, ow⟩ := ow
          cases ow
          cases dp
          exact ⟨_, _, rfl, rfl, p F1 H1 _ _ s1 (r1.put hi hp (k := .sh) (fpv := []) ⟨rfl, .int _⟩ (fun q hq => absurd hq (by simp)) (by simp))⟩
        · cases hz
      · exact p.elim
  · exact p.elim⟩
/-- slot i is forgotten -/
def sKill (i : Nat) (b : MS) : MS := fun s => b (s.set i none)
theorem c_kill {Ob O' : List Kd} {t : TS} {b : MS} (i : Nat) (hi : i < O.length) (hp : isPm O[i]? = false) (h : DC K c Ob (O.set i .sh) t b O') : DC K c Ob O t (sKill i b) O' := ⟨fun {F H σ fps ds} r E p => by
  refine h.run (F := F) (H := H) (σ := σ) (fps := fun j => if j = i then [] else fps j) ?_ E p
  have hne : ∀ j k', c.ps[j]? = some (.pm k') → j ≠ i := fun j k' hjk z => by
    subst z
    rw [(r.par j k' hjk).1] at hp
    exact absurd hp (by simp [isPm])
  refine ⟨r.sub, r.base, r.keep, r.live, r.new, fun j e hj => ?_, fun j q hq => ?_, fun j => ?_, fun j l hjl q hq hq' => ?_, fun j k' h => ?_, by rw [List.length_set]; exact r.len⟩
  · have z : j ≠ i := fun z => by
      subst z
      by_cases hl : j < ds.length
      · rw [List.getElem?_set_self hl] at hj; cases hj
      · rw [List.getElem?_eq_none (by rw [List.length_set]; omega)] at hj; cases hj
    rw [List.getElem?_set_ne (Ne.symm z)] at hj
    obtain ⟨u, hu, w⟩ := r.slots j e hj
    refine ⟨u, hu, ?_⟩
    rw [getD_set_ne z]
    simp only [if_neg z]
    exact w
  · by_cases z : j = i
    · simp only [z, if_pos] at hq; exact absurd hq (by simp)
    · simp only [if_neg z] at hq
      rw [List.getElem?_set_ne (Ne.symm z)]
      exact r.off j q hq
  · by_cases z : j = i
    · simp only [z, if_pos]; simp
    · simp only [if_neg z]; exact r.nd j
  · by_cases z : j = i
    · simp only [z, if_pos] at hq; exact absurd hq (by simp)
    · by_cases z' : l = i
      · simp only [z', if_pos] at hq'; exact absurd hq' (by simp)
      · simp only [if_neg z] at hq
        simp only [if_neg z'] at hq'
        exact r.dj j l hjl q hq hq'
  · have h' := hne j k' h
    obtain ⟨a, b⟩ := r.par j k' h
    exact ⟨by rw [List.getElem?_set_ne (Ne.symm h')]; exact a, b⟩⟩
/-! ### a def of the text -/
/-- what a caller knows of a def -/
def Fk (P : Program) (w : World) (K : Fg) (mg : Str → Option Value) (base : Heap) (x : Str) (k : Nat) (ps : List Str) (sp : Sp) : Prop :=
  ∃ (f : Addr) (fd : FuncData), FnOk P w K mg base CX0 k f fd ps sp ∧ mg x = some (.ref f) ∧ PySem.W.keepIn K (.ref f) = true ∧ Binds K fd ps []
end
abbrev FnP (K : Fg) (x : Str) (st : Stmt) (f : Addr) (fd : FuncData) : Prop := FunD K x x (defArgs st) (defBody st) (defScope st) [] [] f fd
theorem fn_ok {P : Program} {w : World} {K : Fg} {mg : Str → Option Value} {base : Heap} {x : Str} {st : Stmt} {f : Addr} {fd : FuncData} {N xs : List Str} {ps : List Kd} {rk : Kd} {k : Nat} {b : MS} {O1 : List Kd} (F : FnP K x st f fd) (S : FnScope N xs (defScope st)) (hx : xs.length = ps.length) (hN : ps.length ≤ N.length)
    (h : ∀ (cdv : Value) (A : Around) (outer : List Env) (s : Shared) (H : Hp) (E : XK), Room k (A.deeper (PyProof.Rows.envOfC x (defScope st) s.heap.objs.size f cdv)) →
      ∃ t, PSs (cxOf CX0 P w K mg base N x (defScope st) f cdv A outer s H E).nox (defBody st) t ∧ ∀ c : Ctx, c.ps = ps → c.rk = rk → DC K c [] (ps ++ List.replicate (N.length - ps.length) .sh) t b O1) :
    FnOk P w K mg base CX0 (k + 1) f fd xs (spD K (fnD N.length ps.length rk b) ps rk) := by
  refine F.ok S (fun vs H Q E q => (spD_len q).trans hx.symm) (fun cdv A outer s H vs Q E hr q => ?_)
  obtain ⟨t, p, d⟩ := h cdv A outer s H E hr
  exact ⟨t, p.nox, body_ok rfl d E q hN⟩
def addN := i2 fun a b => some (.int (a + b))
def subN := i2 fun a b => some (.int (a - b))
end Z
set_option Elab.async false
set_option linter.all false
set_option maxRecDepth 100000
namespace Z
open PySem L2
open PyProof.Rows in theorem bt_isinstance : bootBuiltins "isinstance" = some (.builtin "isinstance") := boot_isinstance
open PyProof.Rows in theorem bt_int : bootBuiltins "int" = some (.type "int") := boot_int
open PyProof.Rows in theorem bt_bool : bootBuiltins "bool" = some (.type "bool") := boot_bool
open PyProof.Rows in theorem bt_tuple : bootBuiltins "tuple" = some (.type "tuple") := boot_tuple
open PyProof.Rows in theorem bt_list : bootBuiltins "list" = some (.type "list") := boot_list
open PyProof.Rows in theorem bt_str : bootBuiltins "str" = some (.type "str") := boot_str
open PyProof.Rows in theorem bt_len : bootBuiltins "len" = some (.builtin "len") := boot_len
open PyProof.Rows in theorem bt_abs : bootBuiltins "abs" = some (.builtin "abs") := boot_abs
open PyProof.Rows in theorem bt_max : bootBuiltins "max" = some (.builtin "max") := boot_max
open PyProof.Rows in theorem bt_min : bootBuiltins "min" = some (.builtin "min") := boot_min
open PyProof.Rows in theorem bt_sum : bootBuiltins "sum" = some (.builtin "sum") := boot_sum
open PyProof.Rows in theorem bt_sorted : bootBuiltins "sorted" = some (.builtin "sorted") := boot_sorted
def scr (ns : List Int) : D := .list (ns.map .int)
theorem scr_dp {K : Fg} {H : Hp} : ∀ ns : List Int, DpAll K H (ns.map V.int) (ns.map PyData.int)
  | [] => .nil
  | n :: r => .cons (.int n) (scr_dp r)
theorem law_sp {K : Fg} {f : FD} (h : ∀ ns : List Int, ns.length ≤ 63 → ∃ as, f [scr ns] = .ok (.bool true) as) (H : Hp) (a : Addr) (ns : List Int) (hl : ns.length ≤ 63) (hS : SqL K H a (ns.map V.int)) (E : XK) :
    spD K f [.sh] .sh [.ref a] H (fun v _ => v = .bl true) E := by
  obtain ⟨as, e⟩ := h ns hl
  refine ⟨H, fun _ => [], [scr ns], as, .bool true, args_sh rfl (Same.refl _) (.cons (.lst hS (scr_dp ns)) .nil) rfl, e, fun F' H' fps' v fpv o => ?_⟩
  obtain ⟨_, dp⟩ := o.res
  cases dp
  rfl
end Z
set_option Elab.async false
set_option linter.all false
set_option maxRecDepth 100000
namespace Z
open PySem L2
/-! ### what an expression, a statement comes to, by what is wanted behind it -/
theorem nr {α : Sort u} {a b : α} (h : a = b) : a = b := h
/-- holds what simp is not to walk into -/
def W1 {α : Sort u} (_ : α) : Type := Unit
def W2 {α : Sort u} {β : Sort v} (_ : α) (_ : β) : Type := Unit
def W5 {α : Sort u} {β : Sort v} {γ : Sort w} {δ : Sort x} {ε : Sort y} (_ : α) (_ : β) (_ : γ) (_ : δ) (_ : ε) : Type := Unit
def Ev0 {α : Type} (m : M α) (s : DS) (Q : α → DS → Prop) (_ : W2 m Q := Unit.unit) : Prop := match m s with
  | .ok a s' => Q a s'
  | .no => False
def Run0 (b : MS) (s : DS) (Nx : DS → Prop) (Rt : D → DS → Prop) (Bk Ct : DS → Prop) (_ : W5 b Nx Rt Bk Ct := Unit.unit) : Prop := match b s with
  | .nx s' => Nx s'
  | .rt d s' => Rt d s'
  | .bk s' => Bk s'
  | .ct s' => Ct s'
  | .no => False
def So0 {α : Type} (o : Option α) (Q : α → Prop) (_ : W1 Q := Unit.unit) : Prop := match o with
  | some a => Q a
  | none => False
theorem ev_ext_0 {α : Type} {m : M α} {s : DS} {Q Q' : α → DS → Prop} (h : ∀ a s', Q a s' = Q' a s') : Ev0 m s Q = Ev0 m s Q' := by
  have : Q = Q' := funext fun a => funext fun s' => h a s'
  rw [this]
theorem so_ext_0 {α : Type} {o : Option α} {Q Q' : α → Prop} (h : ∀ a, Q a = Q' a) : So0 o Q = So0 o Q' := by
  have : Q = Q' := funext h
  rw [this]
section
variable {α β : Type} {s : DS} {Nx Bk Ct : DS → Prop} {Rt : D → DS → Prop}
theorem so_some_0 {a : α} {Q : α → Prop} : So0 (some a) Q = Q a := nr rfl
theorem so_none_0 {Q : α → Prop} : So0 (none : Option α) Q = False := nr rfl
theorem so_if_0 {c : Bool} {o : Option α} {Q : α → Prop} : So0 (if c = true then o else none) Q = (c = true ∧ So0 o Q) := by
  cases c <;> simp [So0]
theorem so_dec_0 {c : Prop} [Decidable c] {o : Option α} {Q : α → Prop} : So0 (if c then o else none) Q = (c ∧ So0 o Q) := by
  by_cases h : c <;> simp [So0, h]
theorem ev_bnd_0 {m : M α} {f : α → M β} {Q : β → DS → Prop} : Ev0 (bnd m f) s Q = Ev0 m s fun a s' => Ev0 (f a) s' Q := by
  unfold Ev0 bnd
  cases m s <;> rfl
theorem ev_ok_0 {a : α} {Q : α → DS → Prop} : Ev0 (fun s => R.ok a s) s Q = Q a s := nr rfl
theorem ev_opt_0 {o : Option α} {Q : α → DS → Prop} : Ev0 (opt o) s Q = So0 o fun a => Q a s := by
  cases o <;> rfl
theorem ev_var_0 {i : Nat} {Q : D → DS → Prop} : Ev0 (mVar i) s Q = So0 (look s i) fun d => Q d s := by
  unfold Ev0 mVar look
  cases s[i]? with
  | none => rfl
  | some o => cases o <;> rfl
theorem ev_C_0 {d : D} {Q : D → DS → Prop} : Ev0 (mC d) s Q = Q d s := nr rfl
theorem ev_V_0 {m : M D} {Q : BR → DS → Prop} : Ev0 (mV m) s Q = Ev0 m s fun d s' => Q (.val d) s' := ev_bnd_0
theorem ev_slot_0 {i : Nat} {Q : BR → DS → Prop} : Ev0 (mSlot i) s Q = So0 (look s i) fun _ => Q (.slot i) s := by
  unfold Ev0 mSlot look
  cases s[i]? with
  | none => rfl
  | some o => cases o <;> rfl
theorem res_val {d : D} : res s (.val d) = some d := nr rfl
theorem res_slot {i : Nat} : res s (.slot i) = look s i := nr rfl
theorem ev_op_0 {f : D → D → Option D} {a b : M BR} {Q : D → DS → Prop} : Ev0 (mOp f a b) s Q = Ev0 a s fun x s1 => Ev0 b s1 fun y s2 => So0 (res s2 x) fun dx => So0 (res s2 y) fun dy => So0 (f dx dy) fun d => Q d s2 := by
  unfold mOp
  rw [ev_bnd_0]
  refine ev_ext_0 fun x s1 => ?_
  rw [ev_bnd_0]
  refine ev_ext_0 fun y s2 => ?_
  dsimp only [Ev0]
  cases res s2 x with
  | none => rfl
  | some dx =>
    cases res s2 y with
    | none => rfl
    | some dy =>
      dsimp only [So0, opt]
      cases f dx dy <;> rfl
theorem ev_un_0 {f : D → Option D} {a : M BR} {Q : D → DS → Prop} : Ev0 (mUn f a) s Q = Ev0 a s fun x s1 => So0 (res s1 x) fun dx => So0 (f dx) fun d => Q d s1 := by
  unfold mUn
  rw [ev_bnd_0]
  refine ev_ext_0 fun x s1 => ?_
  dsimp only [Ev0]
  cases res s1 x with
  | none => rfl
  | some dx =>
    dsimp only [So0, opt]
    cases f dx <;> rfl
theorem ev_B_0 {m : M D} {Q : Bool → DS → Prop} : Ev0 (mB m) s Q = Ev0 m s fun d s' => So0 (tru d) fun b => Q b s' := by
  unfold mB; rw [ev_bnd_0]; refine ev_ext_0 fun d s' => ?_; exact ev_opt_0
theorem ev_and_0 {a b : M Bool} {Q : Bool → DS → Prop} : Ev0 (mAnd a b) s Q = Ev0 a s fun x s' => if x = true then Ev0 b s' Q else Q false s' := by
  unfold mAnd; rw [ev_bnd_0]; refine ev_ext_0 fun x s' => ?_; cases x <;> rfl
theorem ev_or_0 {a b : M Bool} {Q : Bool → DS → Prop} : Ev0 (mOr a b) s Q = Ev0 a s fun x s' => if x = true then Q true s' else Ev0 b s' Q := by
  unfold mOr; rw [ev_bnd_0]; refine ev_ext_0 fun x s' => ?_; cases x <;> rfl
theorem ev_not_0 {a : M Bool} {Q : Bool → DS → Prop} : Ev0 (mNot a) s Q = Ev0 a s fun x s' => Q (!x) s' := by
  unfold mNot; rw [ev_bnd_0]; rfl
theorem ev_andV_0 {a b : M D} {Q : D → DS → Prop} : Ev0 (mAndV a b) s Q = Ev0 (mB a) s fun x s' => if x = true then Ev0 b s' Q else Q (.bool false) s' := by
  unfold mAndV; rw [ev_bnd_0]; refine ev_ext_0 fun x s' => ?_; cases x <;> rfl
theorem ev_orV_0 {a b : M D} {Q : D → DS → Prop} : Ev0 (mOrV a b) s Q = Ev0 (mB a) s fun x s' => if x = true then Q (.bool true) s' else Ev0 b s' Q := by
  unfold mOrV; rw [ev_bnd_0]; refine ev_ext_0 fun x s' => ?_; cases x <;> rfl
theorem ev_notV_0 {a : M D} {Q : D → DS → Prop} : Ev0 (mNotV a) s Q = Ev0 (mB a) s fun x s' => Q (.bool (!x)) s' := by
  unfold mNotV; rw [ev_bnd_0]; rfl
theorem ev_if_0 {t : M Bool} {a b : M D} {Q : D → DS → Prop} : Ev0 (mIf t a b) s Q = Ev0 t s fun x s' => if x = true then Ev0 a s' Q else Ev0 b s' Q := by
  unfold mIf; rw [ev_bnd_0]; refine ev_ext_0 fun x s' => ?_; cases x <;> rfl
theorem ev_chain_0 {f g : D → D → Option D} {a b c : M D} {Q : D → DS → Prop} : Ev0 (mChain f g a b c) s Q = Ev0 a s fun x s1 => Ev0 b s1 fun y s2 => So0 (f x y) fun z => So0 (tru z) fun k => if k = true then (Ev0 c s2 fun w s3 => So0 (g y w) fun r => Q r s3) else Q (.bool false) s2 := by
  unfold mChain
  rw [ev_bnd_0]; refine ev_ext_0 fun x s1 => ?_
  rw [ev_bnd_0]; refine ev_ext_0 fun y s2 => ?_
  rw [ev_bnd_0, ev_opt_0]
  cases f x y with
  | none => rfl
  | some z =>
    simp only [so_some_0]
    cases z with
    | bool k =>
      cases k with
      | true =>
        simp only [tru, so_some_0, if_true]
        rw [ev_bnd_0]; refine ev_ext_0 fun w s3 => ?_
        exact ev_opt_0
      | false => simp [tru, so_some_0, Ev0]
    | _ => simp [tru, So0, Ev0]
theorem ev_nil_0 {Q : List D → DS → Prop} : Ev0 mNil s Q = Q [] s := nr rfl
theorem ev_cons_0 {a : M D} {r : M (List D)} {Q : List D → DS → Prop} : Ev0 (mCons a r) s Q = Ev0 a s fun x s1 => Ev0 r s1 fun xs s2 => Q (x :: xs) s2 := by
  unfold mCons; rw [ev_bnd_0]; refine ev_ext_0 fun x s1 => ?_; rw [ev_bnd_0]; rfl
theorem ev_nilB_0 {Q : List BR → DS → Prop} : Ev0 mNilB s Q = Q [] s := nr rfl
theorem ev_consB_0 {a : M BR} {r : M (List BR)} {Q : List BR → DS → Prop} : Ev0 (mConsB a r) s Q = Ev0 a s fun x s1 => Ev0 r s1 fun xs s2 => Q (x :: xs) s2 := by
  unfold mConsB; rw [ev_bnd_0]; refine ev_ext_0 fun x s1 => ?_; rw [ev_bnd_0]; rfl
theorem ev_tup_0 {a : M (List D)} {Q : D → DS → Prop} : Ev0 (mTup a) s Q = Ev0 a s fun xs s' => fits xs.length = true ∧ Q (.tuple xs) s' := by
  unfold mTup; rw [ev_bnd_0]; refine ev_ext_0 fun xs s' => ?_; rw [ev_opt_0, so_if_0]; rfl
theorem ev_lst_0 {a : M (List D)} {Q : D → DS → Prop} : Ev0 (mLst a) s Q = Ev0 a s fun xs s' => fits xs.length = true ∧ Q (.list xs) s' := by
  unfold mLst; rw [ev_bnd_0]; refine ev_ext_0 fun xs s' => ?_; rw [ev_opt_0, so_if_0]; rfl
theorem ev_B1_0 {f : List D → Option D} {a : M (List BR)} {Q : D → DS → Prop} : Ev0 (mB1 f a) s Q = Ev0 a s fun xs s' => So0 (xs.mapM (res s')) fun ds => So0 (f ds) fun d => Q d s' := by
  unfold mB1; rw [ev_bnd_0]; refine ev_ext_0 fun xs s' => ?_
  dsimp only [Ev0]
  cases xs.mapM (res s') with
  | none => rfl
  | some ds =>
    dsimp only [So0, opt]
    cases f ds <;> rfl
theorem ev_call_0 {f : FD} {n : Nat} {a : M (List D)} {Q : D → DS → Prop} : Ev0 (mCall f n a) s Q = Ev0 a s fun xs s' => xs.length = n ∧ ∃ d as, f xs = .ok d as ∧ Q d s' := by
  unfold mCall; rw [ev_bnd_0]; refine ev_ext_0 fun xs s' => ?_
  dsimp only [Ev0]
  by_cases h : xs.length = n
  · rw [if_pos h]
    cases f xs with
    | no => simp
    | ok d as => simp [h]
  · rw [if_neg h]; simp [h]
theorem ev_call1_0 {f : FD} {n j : Nat} {a : M (List D)} {Q : D → DS → Prop} : Ev0 (mCall1 f n j a) s Q = So0 (look s j) fun _ => Ev0 a s fun xs s' => So0 (look s' j) fun e => xs.length = n ∧ ∃ d e' as, f (e :: xs) = .ok d (e' :: as) ∧ Q d (s'.set j (some e')) := by
  unfold mCall1 look
  dsimp only [Ev0]
  cases s[j]? with
  | none => rfl
  | some o =>
    cases o with
    | none => rfl
    | some x =>
      dsimp only [So0, bnd]
      cases a s with
      | no => rfl
      | ok xs s' =>
        dsimp only
        cases s'[j]? with
        | none => rfl
        | some o' =>
          cases o' with
          | none => rfl
          | some e =>
            dsimp only
            by_cases h : xs.length = n
            · rw [if_pos h]
              cases f (e :: xs) with
              | no => simp
              | ok d as =>
                cases as with
                | nil => simp
                | cons e' as =>
                  refine propext ⟨fun q => ⟨h, d, e', as, rfl, q⟩, fun ⟨_, d1, e1, as1, z, q⟩ => ?_⟩
                  cases z
                  exact q
            · rw [if_neg h]; simp [h]
theorem ev_callT_0 {f : FD} {n : Nat} {m0 : M D} {a : M (List D)} {Q : D → DS → Prop} : Ev0 (mCallT f n m0 a) s Q = Ev0 m0 s fun e s1 => Ev0 a s1 fun xs s' => xs.length = n ∧ ∃ d e' as, f (e :: xs) = .ok d (e' :: as) ∧ Q d s' := by
  unfold mCallT; rw [ev_bnd_0]; refine ev_ext_0 fun e s1 => ?_; rw [ev_bnd_0]; refine ev_ext_0 fun xs s' => ?_
  dsimp only [Ev0]
  by_cases h : xs.length = n
  · rw [if_pos h]
    cases f (e :: xs) with
    | no => simp
    | ok d as => cases as <;> simp [h]
  · rw [if_neg h]; simp [h]
theorem ev_sl_0 {a : M BR} {lo hi : M (Option Int)} {Q : D → DS → Prop} : Ev0 (mSl a lo hi) s Q = Ev0 a s fun x s1 => Ev0 lo s1 fun l s2 => Ev0 hi s2 fun h s3 => So0 (res s3 x) fun d => So0 (slD d l h) fun r => Q r s3 := by
  unfold mSl; rw [ev_bnd_0]; refine ev_ext_0 fun x s1 => ?_; rw [ev_bnd_0]; refine ev_ext_0 fun l s2 => ?_; rw [ev_bnd_0]; refine ev_ext_0 fun h s3 => ?_
  dsimp only [Ev0]
  cases res s3 x with
  | none => rfl
  | some d =>
    dsimp only [So0, opt]
    cases slD d l h <;> rfl
theorem ev_P0_0 {Q : Option Int → DS → Prop} : Ev0 mP0 s Q = Q none s := nr rfl
def iof : D → Option Int
  | .int i => some i
  | _ => none
theorem ev_P1_0 {m : M D} {Q : Option Int → DS → Prop} : Ev0 (mP1 m) s Q = Ev0 m s fun d s' => So0 (iof d) fun i => Q (some i) s' := by
  unfold mP1; rw [ev_bnd_0]; refine ev_ext_0 fun d s' => ?_; rw [ev_opt_0]; cases d <;> rfl
theorem ev_Rg1_0 {m : M D} {Q : Int × Int → DS → Prop} : Ev0 (mRg1 m) s Q = Ev0 m s fun d s' => So0 (iof d) fun i => Q (0, i) s' := by
  unfold mRg1; rw [ev_bnd_0]; refine ev_ext_0 fun d s' => ?_; rw [ev_opt_0]; cases d <;> rfl
theorem ev_Rg2_0 {m n : M D} {Q : Int × Int → DS → Prop} : Ev0 (mRg2 m n) s Q = Ev0 m s fun d s1 => Ev0 n s1 fun e s' => So0 (iof d) fun i => So0 (iof e) fun j => Q (i, j) s' := by
  unfold mRg2; rw [ev_bnd_0]; refine ev_ext_0 fun d s1 => ?_; rw [ev_bnd_0]; refine ev_ext_0 fun e s' => ?_; rw [ev_opt_0]; cases d <;> cases e <;> rfl
theorem ev_LstRg_0 {m : M (Int × Int)} {Q : D → DS → Prop} : Ev0 (mLstRg m) s Q = Ev0 m s fun p s' => rgC p.1 p.2 = true ∧ Q (.list (rgD p.1 p.2)) s' := by
  unfold mLstRg; rw [ev_bnd_0]; refine ev_ext_0 fun p s' => ?_; rw [ev_opt_0, so_if_0]; rfl
def itD : D → Option (List D)
  | .list xs => some xs
  | .tuple xs => some xs
  | _ => none
theorem ev_It_0 {m : M D} {Q : List D → DS → Prop} : Ev0 (mIt m) s Q = Ev0 m s fun d s' => So0 (itD d) fun xs => Q xs s' := by
  unfold mIt; rw [ev_bnd_0]; refine ev_ext_0 fun d s' => ?_; rw [ev_opt_0]; cases d <;> rfl
def r1D : List D → Option Int
  | [.int j] => some j
  | _ => none
def r2D : List D → Option (Int × Int)
  | [.int i, .int j] => some (i, j)
  | _ => none
theorem ev_R1_0 {m : M (List D)} {Q : List D → DS → Prop} : Ev0 (mR1 m) s Q = Ev0 m s fun d s' => So0 (r1D d) fun j => rngC 0 j = true ∧ Q (rgD 0 j) s' := by
  unfold mR1; rw [ev_bnd_0]; refine ev_ext_0 fun d s' => ?_; rw [ev_opt_0]
  unfold r1D
  split
  · rw [so_if_0]; rfl
  · rename_i hn
    first
    | rfl
    | (split
       · rename_i j; exact absurd rfl (hn j)
       · rfl)
theorem ev_R2_0 {m : M (List D)} {Q : List D → DS → Prop} : Ev0 (mR2 m) s Q = Ev0 m s fun d s' => So0 (r2D d) fun p => rngC p.1 p.2 = true ∧ Q (rgD p.1 p.2) s' := by
  unfold mR2; rw [ev_bnd_0]; refine ev_ext_0 fun d s' => ?_; rw [ev_opt_0]
  unfold r2D
  split
  · rw [so_if_0]; rfl
  · rename_i hn
    first
    | rfl
    | (split
       · rename_i i j; exact absurd rfl (hn i j)
       · rfl)
/-! statements -/
theorem run_nx_0 : Run0 sNx s Nx Rt Bk Ct = Nx s := nr rfl
theorem run_no_0 : Run0 sNo s Nx Rt Bk Ct = False := nr rfl
theorem run_bk_0 : Run0 sBk s Nx Rt Bk Ct = Bk s := nr rfl
theorem run_ct_0 : Run0 sCt s Nx Rt Bk Ct = Ct s := nr rfl
theorem run_seq_0 {a b : MS} : Run0 (sSeq a b) s Nx Rt Bk Ct = Run0 a s (fun s' => Run0 b s' Nx Rt Bk Ct) Rt Bk Ct := by
  unfold Run0 sSeq
  cases a s <;> rfl
theorem run_set_0 {i : Nat} {m : M D} : Run0 (sSet i m) s Nx Rt Bk Ct = Ev0 m s fun d s' => Nx (s'.set i (some d)) := by
  unfold Run0 sSet Ev0
  cases m s <;> rfl
theorem run_drop_0 {m : M D} : Run0 (sDrop m) s Nx Rt Bk Ct = Ev0 m s fun _ s' => Nx s' := by
  unfold Run0 sDrop Ev0
  cases m s <;> rfl
theorem run_ret_0 {m : M D} : Run0 (sRet m) s Nx Rt Bk Ct = Ev0 m s fun d s' => Rt d s' := by
  unfold Run0 sRet Ev0
  cases m s <;> rfl
theorem run_if_0 {t : M Bool} {a b : MS} : Run0 (sIf t a b) s Nx Rt Bk Ct = Ev0 t s fun x s' => if x = true then Run0 a s' Nx Rt Bk Ct else Run0 b s' Nx Rt Bk Ct := by
  unfold sIf Ev0
  show (match (match t s with | .ok true s' => a s' | .ok false s' => b s' | .no => .no) with | .nx s' => Nx s' | .rt d s' => Rt d s' | .bk s' => Bk s' | .ct s' => Ct s' | .no => False) = _
  cases t s with
  | no => rfl
  | ok x s' => cases x <;> rfl
theorem run_asg_0 {m : M D} {g : MG} : Run0 (sAsg m g) s Nx Rt Bk Ct = Ev0 m s fun d s' => So0 (g d s') fun s2 => Nx s2 := by
  unfold Run0 sAsg Ev0
  cases m s with
  | no => rfl
  | ok d s' =>
    simp only
    cases g d s' <;> rfl
def lof : D → Option (List D)
  | .list xs => some xs
  | _ => none
theorem run_app_0 {i : Nat} {m : M D} : Run0 (sApp i m) s Nx Rt Bk Ct = So0 (look s i) fun d0 => So0 (lof d0) fun _ => Ev0 m s fun d s' => So0 (look s' i) fun d1 => So0 (lof d1) fun xs => decide (xs.length < sizeLine) = true ∧ Nx (s'.set i (some (.list (xs ++ [d])))) := by
  unfold Run0 sApp look Ev0
  cases h : s[i]? with
  | none => rfl
  | some o =>
    cases o with
    | none => rfl
    | some d0 =>
      cases d0 <;> try rfl
      simp only [so_some_0, lof]
      cases m s with
      | no => rfl
      | ok d s' =>
        simp only
        cases h' : s'[i]? with
        | none => rfl
        | some o' =>
          cases o' with
          | none => rfl
          | some d1 =>
            cases d1 <;> try rfl
            rename_i xs
            simp only [so_some_0, lof]
            by_cases hz : xs.length < sizeLine
            · simp [hz]
            · simp [hz]
theorem run_put_0 {i : Nat} {me m : M D} : Run0 (sPut i me m) s Nx Rt Bk Ct = Ev0 m s fun d s1 => So0 (look s1 i) fun d0 => So0 (lof d0) fun _ => Ev0 me s1 fun k s2 => So0 (iof k) fun z => So0 (look s2 i) fun d1 => So0 (lof d1) fun xs => So0 (ixN xs.length z) fun j => Nx (s2.set i (some (.list (xs.set j d)))) := by
  unfold Run0 sPut look Ev0
  cases m s with
  | no => rfl
  | ok d s1 =>
    simp only
    cases h : s1[i]? with
    | none => rfl
    | some o =>
      cases o with
      | none => rfl
      | some d0 =>
        cases d0 <;> try rfl
        simp only [so_some_0, lof]
        cases me s1 with
        | no => rfl
        | ok k s2 =>
          simp only
          cases k <;> try rfl
          simp only [so_some_0, iof]
          cases h' : s2[i]? with
          | none => rfl
          | some o' =>
            cases o' with
            | none => rfl
            | some d1 =>
              cases d1 <;> try rfl
              rename_i z xs
              simp only [so_some_0, lof]
              cases ixN xs.length z <;> rfl
theorem run_aug_0 {i : Nat} {f : D → D → Option D} {m : M D} : Run0 (sAug i f m) s Nx Rt Bk Ct = So0 (look s i) fun x => Ev0 m s fun y s' => So0 (f x y) fun z => Nx (s'.set i (some z)) := by
  unfold Run0 sAug look Ev0
  cases h : s[i]? with
  | none => rfl
  | some o =>
    cases o with
    | none => rfl
    | some x =>
      simp only [so_some_0]
      cases m s with
      | no => rfl
      | ok y s' =>
        simp only
        cases f x y <;> rfl
theorem run_frz_0 {i : Nat} {b : MS} : Run0 (sFrz i b) s Nx Rt Bk Ct = So0 (look s i) fun _ => Run0 b s Nx Rt Bk Ct := by
  unfold look
  dsimp only [Run0, sFrz]
  cases h : s[i]? with
  | none => rfl
  | some o => cases o <;> rfl
theorem run_kill_0 {i : Nat} {b : MS} : Run0 (sKill i b) s Nx Rt Bk Ct = Run0 b (s.set i none) Nx Rt Bk Ct := nr rfl
/-- a for by its invariant: by the items taken and the slots -/
theorem run_for_0 {mi : M (List D)} {g : MG} {b : MS} {xs : List D} {s' : DS} (I : Nat → DS → Prop) (h : mi s = .ok xs s') (h0 : I 0 s')
    (ht : ∀ i d s1, xs[i]? = some d → I i s1 → So0 (g d s1) fun s2 => Run0 b s2 (I (i + 1)) Rt Nx (I (i + 1))) (he : ∀ s1, I xs.length s1 → Nx s1) : Run0 (sFor mi g b) s Nx Rt Bk Ct := by
  unfold Run0 sFor
  rw [h]
  have key : ∀ (n : Nat) (i : Nat) (s1 : DS), n + i = xs.length → I i s1 → Run0 (loop g b (xs.drop i)) s1 Nx Rt Bk Ct := fun n => by
    induction n with
    | zero =>
      intro i s1 hn hI
      have : i = xs.length := by omega
      subst this
      rw [List.drop_of_length_le (Nat.le_refl _)]
      exact he s1 hI
    | succ n ih =>
      intro i s1 hn hI
      have hlt : i < xs.length := by omega
      have hd : xs.drop i = xs[i] :: xs.drop (i + 1) := List.drop_eq_getElem_cons hlt
      rw [hd]
      have t := ht i xs[i] s1 (List.getElem?_eq_getElem hlt) hI
      unfold Run0 loop
      cases hg : g xs[i] s1 with
      | none => rw [hg] at t; exact t
      | some s2 =>
        rw [hg] at t
        simp only [So0] at t
        unfold Run0 at t
        dsimp only
        cases hb : b s2 with
        | nx s3 => rw [hb] at t; exact ih (i + 1) s3 (by omega) t
        | ct s3 => rw [hb] at t; exact ih (i + 1) s3 (by omega) t
        | bk s3 => rw [hb] at t; exact t
        | rt d s3 => rw [hb] at t; exact t
        | no => rw [hb] at t; exact t
  exact key xs.length 0 s' (by omega) h0
/-- for, the items' expression read by Ev0 -/
theorem run_forE_0 {mi : M (List D)} {g : MG} {b : MS} (h : Ev0 mi s fun xs s' => ∃ I : Nat → DS → Prop, I 0 s' ∧ (∀ i d s1, xs[i]? = some d → I i s1 → So0 (g d s1) fun s2 => Run0 b s2 (I (i + 1)) Rt Nx (I (i + 1))) ∧ ∀ s1, I xs.length s1 → Nx s1) : Run0 (sFor mi g b) s Nx Rt Bk Ct := by
  unfold Ev0 at h
  split at h
  · rename_i xs s' e
    obtain ⟨I, h0, ht, he⟩ := h
    exact run_for_0 I e h0 ht he
  · exact h.elim
/-- while, by an invariant and a measure -/
theorem run_while_0 {t : M Bool} {b : MS} (I : DS → Prop) (μ : DS → Nat) (h0 : I s)
    (ht : ∀ s1, I s1 → Ev0 t s1 fun x s2 => if x = true then Run0 b s2 (fun s3 => I s3 ∧ μ s3 < μ s1) Rt Nx (fun s3 => I s3 ∧ μ s3 < μ s1) else Nx s2) : Run0 (sWhile t b) s Nx Rt Bk Ct := by
  have key : ∀ (n : Nat) (s1 : DS), μ s1 < n → I s1 → ∃ r, wl t b n s1 = r ∧ r ≠ .no ∧ (match r with | .nx s' => Nx s' | .rt d s' => Rt d s' | _ => False) := fun n => by
    induction n with
    | zero => intro s1 h; omega
    | succ n ih =>
      intro s1 hm hI
      have h := ht s1 hI
      unfold Ev0 at h
      unfold wl
      cases e : t s1 with
      | no => rw [e] at h; exact h.elim
      | ok x s2 =>
        rw [e] at h
        cases x with
        | false => exact ⟨_, rfl, (fun z => nomatch z), h⟩
        | true =>
          simp only [if_true] at h
          unfold Run0 at h
          dsimp only
          cases eb : b s2 with
          | nx s3 => rw [eb] at h; exact ih s3 (by omega) h.1
          | ct s3 => rw [eb] at h; exact ih s3 (by omega) h.1
          | bk s3 => rw [eb] at h; exact ⟨_, rfl, (fun z => nomatch z), h⟩
          | rt d s3 => rw [eb] at h; exact ⟨_, rfl, (fun z => nomatch z), h⟩
          | no => rw [eb] at h; exact h.elim
  obtain ⟨r, e, hr, q⟩ := key (μ s + 1) s (by omega) h0
  have e2 := sWhile_of (μ s + 1) e hr
  unfold Run0
  rw [e2]
  cases r with
  | nx s' => exact q
  | rt d s' => exact q
  | bk s' => exact q.elim
  | ct s' => exact q.elim
  | no => exact q.elim
/-- a def's meaning, by its body -/
theorem fn_run_0 {N n : Nat} {rk : Kd} {b : MS} {args : List D} {Q : D → List D → Prop} (hl : args.length = n) (h : Run0 b (entry N args) (fun s => rk = .sh ∧ So0 ((List.range n).mapM (look s)) fun as => Q .none as) (fun d s => So0 ((List.range n).mapM (look s)) fun as => Q d as) (fun _ => False) (fun _ => False)) :
    ∃ d as, fnD N n rk b args = .ok d as ∧ Q d as := by
  unfold Run0 at h
  unfold fnD
  rw [if_pos hl]
  split at h
  · rename_i s e
    rw [e]
    simp only [h.1, if_true]
    obtain ⟨_, h⟩ := h
    unfold leave
    cases z : (List.range n).mapM (look s) with
    | none => rw [z] at h; exact h.elim
    | some as => rw [z] at h; exact ⟨_, _, rfl, h⟩
  · rename_i d s e
    rw [e]
    dsimp only
    unfold leave
    cases z : (List.range n).mapM (look s) with
    | none => rw [z] at h; exact h.elim
    | some as => rw [z] at h; exact ⟨_, _, rfl, h⟩
  · exact h.elim
  · exact h.elim
  · exact h.elim
theorem ev_mono_0 {m : M α} {Q Q' : α → DS → Prop} (h : Ev0 m s Q) (f : ∀ a s', Q a s' → Q' a s') : Ev0 m s Q' := by
  unfold Ev0 at h ⊢
  cases e : m s with
  | no => rw [e] at h; exact h
  | ok a s' => rw [e] at h; exact f _ _ h
theorem run_mono_0 {b : MS} {Nx' Bk' Ct' : DS → Prop} {Rt' : D → DS → Prop} (h : Run0 b s Nx Rt Bk Ct) (f1 : ∀ s', Nx s' → Nx' s') (f2 : ∀ d s', Rt d s' → Rt' d s') (f3 : ∀ s', Bk s' → Bk' s') (f4 : ∀ s', Ct s' → Ct' s') : Run0 b s Nx' Rt' Bk' Ct' := by
  unfold Run0 at h ⊢
  cases e : b s with
  | nx s' => rw [e] at h; exact f1 _ h
  | rt d s' => rw [e] at h; exact f2 _ _ h
  | bk s' => rw [e] at h; exact f3 _ h
  | ct s' => rw [e] at h; exact f4 _ h
  | no => rw [e] at h; exact h
end
end Z
set_option Elab.async false
set_option linter.all false
set_option maxRecDepth 100000
namespace Z
open PySem L2
/-! ### the meaning run by simp: ways and calls stand still until they are asked -/
def Br0 (x : Bool) (A B : Prop) (_ : W2 A B := Unit.unit) : Prop := if x = true then A else B
theorem br_t_0 {A B : Prop} : Br0 true A B = A := nr rfl
theorem br_f_0 {A B : Prop} : Br0 false A B = B := by unfold Br0; simp
theorem br_i_0 {x : Bool} {A B : Prop} (h1 : x = true → A) (h2 : x = false → B) : Br0 x A B := by
  cases x with
  | true => exact h1 rfl
  | false => rw [br_f_0]; exact h2 rfl
theorem br_d_0 {p : Prop} [Decidable p] {A B : Prop} (h1 : p → A) (h2 : ¬ p → B) : Br0 (decide p) A B := br_i_0 (fun h => h1 (of_decide_eq_true h)) fun h => h2 (of_decide_eq_false h)
theorem br_y_0 {p : Prop} [Decidable p] {A B : Prop} (h : p) (h1 : A) : Br0 (decide p) A B := br_d_0 (fun _ => h1) fun z => absurd h z
theorem br_n_0 {p : Prop} [Decidable p] {A B : Prop} (h : ¬ p) (h1 : B) : Br0 (decide p) A B := br_d_0 (fun z => absurd z h) fun _ => h1
def Cl0 (f : FD) (xs : List D) (Q : D → List D → Prop) (_ : W2 f Q := Unit.unit) : Prop := ∃ d as, f xs = .ok d as ∧ Q d as
theorem Cl0.of_0 {f : FD} {xs : List D} {Q : D → List D → Prop} {d : D} {as : List D} (h : f xs = .ok d as) (q : Q d as) : Cl0 f xs Q := ⟨d, as, h, q⟩
theorem Cl0.mono_0 {f : FD} {xs : List D} {Q Q' : D → List D → Prop} (h : Cl0 f xs Q) (g : ∀ d as, Q d as → Q' d as) : Cl0 f xs Q' := by
  obtain ⟨d, as, e, q⟩ := h
  exact ⟨d, as, e, g d as q⟩
section
variable {s : DS} {Nx : DS → Prop} {Rt : D → DS → Prop} {Bk Ct : DS → Prop}
theorem fn_cl_0 {N n : Nat} {rk : Kd} {b : MS} {args : List D} {Q : D → List D → Prop} (hl : args.length = n) (h : Run0 b (entry N args) (fun s => rk = .sh ∧ So0 ((List.range n).mapM (look s)) fun as => Q .none as) (fun d s => So0 ((List.range n).mapM (look s)) fun as => Q d as) (fun _ => False) (fun _ => False)) :
    Cl0 (fnD N n rk b) args Q := fn_run_0 hl h
theorem lk0 {x : Option D} : look (x :: s) 0 = x := by cases x <;> rfl
theorem lkS {x : Option D} {n : Nat} : look (x :: s) (n + 1) = look s n := nr rfl
theorem st0 {x y : Option D} : List.set (x :: s) 0 y = y :: s := nr rfl
theorem stS {x y : Option D} {n : Nat} : List.set (x :: s) (n + 1) y = x :: List.set s n y := nr rfl
theorem entry0 {N : Nat} : entry N [] = List.replicate N none := by simp [entry]
theorem entryS {N : Nat} {a : D} {l : List D} : entry (N + 1) (a :: l) = some a :: entry N l := by simp [entry]
theorem rep0 : List.replicate 0 (none : Option D) = [] := nr rfl
theorem repS {n : Nat} : List.replicate (n + 1) (none : Option D) = none :: List.replicate n none := nr rfl
theorem so_bind_0 {α β : Type} {o : Option α} {f : α → Option β} {Q : β → Prop} : So0 (o >>= f) Q = So0 o fun a => So0 (f a) Q := by cases o <;> rfl
theorem so_pure_0 {α : Type} {a : α} {Q : α → Prop} : So0 (pure a) Q = Q a := nr rfl
theorem so_mapN_0 {α β : Type} {f : α → Option β} {Q : List β → Prop} : So0 (List.mapM f []) Q = Q [] := nr rfl
theorem so_mapC_0 {α β : Type} {f : α → Option β} {x : α} {l : List α} {Q : List β → Prop} : So0 (List.mapM f (x :: l)) Q = So0 (f x) fun a => So0 (List.mapM f l) fun as => Q (a :: as) := by
  rw [List.mapM_cons, so_bind_0]
  refine so_ext_0 fun a => ?_
  rw [so_bind_0]
  congr 1
theorem lks_eq_0 {n : Nat} {Q : List D → Prop} : So0 ((List.range n).mapM (look s)) Q = So0 ((List.range' 0 n).mapM (look s)) Q := by rw [List.range_eq_range']
theorem rg_z {a : Nat} : List.range' a 0 = [] := nr rfl
theorem rg_s {a n : Nat} : List.range' a (n + 1) = a :: List.range' (a + 1) n := nr rfl
/-! ways -/
theorem xv_and_0 {a b : M Bool} {Q : Bool → DS → Prop} : Ev0 (mAnd a b) s Q = Ev0 a s fun x s' => Br0 x (Ev0 b s' Q) (Q false s') := ev_and_0
theorem xv_or_0 {a b : M Bool} {Q : Bool → DS → Prop} : Ev0 (mOr a b) s Q = Ev0 a s fun x s' => Br0 x (Q true s') (Ev0 b s' Q) := ev_or_0
theorem xv_andV_0 {a b : M D} {Q : D → DS → Prop} : Ev0 (mAndV a b) s Q = Ev0 (mB a) s fun x s' => Br0 x (Ev0 b s' Q) (Q (.bool false) s') := ev_andV_0
theorem xv_orV_0 {a b : M D} {Q : D → DS → Prop} : Ev0 (mOrV a b) s Q = Ev0 (mB a) s fun x s' => Br0 x (Q (.bool true) s') (Ev0 b s' Q) := ev_orV_0
theorem xv_if_0 {t : M Bool} {a b : M D} {Q : D → DS → Prop} : Ev0 (mIf t a b) s Q = Ev0 t s fun x s' => Br0 x (Ev0 a s' Q) (Ev0 b s' Q) := ev_if_0
theorem xv_chain_0 {f g : D → D → Option D} {a b c : M D} {Q : D → DS → Prop} : Ev0 (mChain f g a b c) s Q = Ev0 a s fun x s1 => Ev0 b s1 fun y s2 => So0 (f x y) fun z => So0 (tru z) fun k => Br0 k (Ev0 c s2 fun w s3 => So0 (g y w) fun r => Q r s3) (Q (.bool false) s2) := ev_chain_0
theorem xr_if_0 {t : M Bool} {a b : MS} : Run0 (sIf t a b) s Nx Rt Bk Ct = Ev0 t s fun x s' => Br0 x (Run0 a s' Nx Rt Bk Ct) (Run0 b s' Nx Rt Bk Ct) := run_if_0
theorem xv_call_0 {f : FD} {n : Nat} {a : M (List D)} {Q : D → DS → Prop} : Ev0 (mCall f n a) s Q = Ev0 a s fun xs s' => xs.length = n ∧ Cl0 f xs fun d _ => Q d s' := by
  rw [ev_call_0]; rfl
def hdO (as : List D) : Option D := as.head?
theorem xv_call1_0 {f : FD} {n j : Nat} {a : M (List D)} {Q : D → DS → Prop} : Ev0 (mCall1 f n j a) s Q = So0 (look s j) fun _ => Ev0 a s fun xs s' => So0 (look s' j) fun e => xs.length = n ∧ Cl0 f (e :: xs) fun d as => So0 (hdO as) fun e' => Q d (s'.set j (some e')) := by
  rw [ev_call1_0]
  refine so_ext_0 fun _ => ?_
  refine ev_ext_0 fun xs s' => ?_
  refine so_ext_0 fun e => ?_
  refine congrArg _ (propext ⟨fun ⟨d, e', as, h, q⟩ => ⟨d, _, h, q⟩, fun ⟨d, as, h, q⟩ => ?_⟩)
  cases as with
  | nil => exact q.elim
  | cons e' as => exact ⟨d, e', as, h, q⟩
theorem xv_callT_0 {f : FD} {n : Nat} {m0 : M D} {a : M (List D)} {Q : D → DS → Prop} : Ev0 (mCallT f n m0 a) s Q = Ev0 m0 s fun e s1 => Ev0 a s1 fun xs s' => xs.length = n ∧ Cl0 f (e :: xs) fun d as => So0 (hdO as) fun _ => Q d s' := by
  rw [ev_callT_0]
  refine ev_ext_0 fun e s1 => ?_
  refine ev_ext_0 fun xs s' => ?_
  refine congrArg _ (propext ⟨fun ⟨d, e', as, h, q⟩ => ⟨d, _, h, q⟩, fun ⟨d, as, h, q⟩ => ?_⟩)
  cases as with
  | nil => exact q.elim
  | cons e' as => exact ⟨d, e', as, h, q⟩
theorem hdC_0 {a : D} {as : List D} {Q : D → Prop} : So0 (hdO (a :: as)) Q = Q a := nr rfl
/-! operations -/
variable {i j : Int} {Q : D → Prop}
theorem so_add_0 : So0 (addD (.int i) (.int j)) Q = Q (.int (i + j)) := nr rfl
theorem so_sub_0 : So0 (subI (.int i) (.int j)) Q = Q (.int (i - j)) := nr rfl
theorem so_addN_0 : So0 (addN (.int i) (.int j)) Q = Q (.int (i + j)) := nr rfl
theorem so_subN_0 : So0 (subN (.int i) (.int j)) Q = Q (.int (i - j)) := nr rfl
theorem so_mul_0 : So0 (mulI (.int i) (.int j)) Q = (mulC i j = true ∧ Q (.int (i * j))) := so_if_0
theorem so_div_0 : So0 (divI (.int i) (.int j)) Q = (divC i j = true ∧ Q (.int (i / j))) := so_if_0
theorem so_mod_0 : So0 (modI (.int i) (.int j)) Q = (modC i j = true ∧ Q (.int (i % j))) := so_if_0
theorem so_pow_0 : So0 (powI (.int i) (.int j)) Q = (powC i j = true ∧ Q (.int (i ^ j.toNat))) := so_if_0
theorem so_shl_0 : So0 (shlI (.int i) (.int j)) Q = (shlC i j = true ∧ Q (.int (i * 2 ^ j.toNat))) := so_if_0
theorem so_shr_0 : So0 (shrI (.int i) (.int j)) Q = (shrC i j = true ∧ Q (.int (i / 2 ^ j.toNat))) := so_if_0
theorem so_and_0 : So0 (andI (.int i) (.int j)) Q = Q (.int (Builtin.bitAnd i j)) := nr rfl
theorem so_or_0 : So0 (orI (.int i) (.int j)) Q = Q (.int (Builtin.bitOr i j)) := nr rfl
theorem so_xor_0 : So0 (xorI (.int i) (.int j)) Q = Q (.int (Builtin.bitXor i j)) := nr rfl
theorem so_lt_0 : So0 (ltI (.int i) (.int j)) Q = Q (.bool (decide (i < j))) := nr rfl
theorem so_le_0 : So0 (leI (.int i) (.int j)) Q = Q (.bool (decide (i ≤ j))) := nr rfl
theorem so_gt_0 : So0 (gtI (.int i) (.int j)) Q = Q (.bool (decide (j < i))) := nr rfl
theorem so_ge_0 : So0 (geI (.int i) (.int j)) Q = Q (.bool (decide (j ≤ i))) := nr rfl
theorem so_eqI_0 : So0 (eqD (.int i) (.int j)) Q = Q (.bool (decide (i = j))) := nr rfl
theorem so_neI_0 : So0 (neD (.int i) (.int j)) Q = Q (.bool (!decide (i = j))) := nr rfl
theorem so_neg_0 : So0 (negI (.int i)) Q = Q (.int (-i)) := nr rfl
theorem so_isN_0 {d : D} : So0 (isN d .none) Q = Q (.bool (nonB d)) := nr rfl
theorem so_notN_0 {d : D} : So0 (notN d .none) Q = Q (.bool (!nonB d)) := nr rfl
theorem non_n : nonB .none = true := nr rfl
theorem non_i : nonB (.int i) = false := nr rfl
theorem non_t {l : List D} : nonB (.tuple l) = false := nr rfl
theorem non_l {l : List D} : nonB (.list l) = false := nr rfl
theorem non_b {b : Bool} : nonB (.bool b) = false := nr rfl
theorem non_s {b : Str} : nonB (.str b) = false := nr rfl
theorem so_ixL_0 {l : List D} : So0 (ixD (.list l) (.int i)) Q = So0 (atI l i) Q := nr rfl
theorem so_ixT_0 {l : List D} : So0 (ixD (.tuple l) (.int i)) Q = So0 (atI l i) Q := nr rfl
theorem at0 {α : Type} {a : α} {l : List α} : atI (a :: l) 0 = some a := by
  unfold atI ixN; simp
theorem ixN_ofNat {n : Nat} {k : Nat} (h : k < n) : ixN n (k : Int) = some k := by
  unfold ixN
  rw [if_pos (by omega), if_pos (by omega)]
  simp
theorem at1 {α : Type} {a b : α} {l : List α} : atI (a :: b :: l) 1 = some b := by
  have : ixN (a :: b :: l).length ((1 : Nat) : Int) = some 1 := ixN_ofNat (by simp)
  unfold atI; erw [this]; rfl
theorem at2 {α : Type} {a b c : α} {l : List α} : atI (a :: b :: c :: l) 2 = some c := by
  have : ixN (a :: b :: c :: l).length ((2 : Nat) : Int) = some 2 := ixN_ofNat (by simp)
  unfold atI; erw [this]; rfl
theorem at3 {α : Type} {a b c d : α} {l : List α} : atI (a :: b :: c :: d :: l) 3 = some d := by
  have : ixN (a :: b :: c :: d :: l).length ((3 : Nat) : Int) = some 3 := ixN_ofNat (by simp)
  unfold atI; erw [this]; rfl
theorem at_nat {α : Type} {l : List α} {i : Int} {v : α} (h0 : 0 ≤ i) (h : l[i.toNat]? = some v) : atI l i = some v := by
  have := atI_nat h
  rwa [Int.toNat_of_nonneg h0] at this
theorem so_at_0 {l : List D} {i : Int} {Q : D → Prop} (h0 : 0 ≤ i) (h1 : i < l.length) (h : ∀ v, l[i.toNat]? = some v → Q v) : So0 (atI l i) Q := by
  have hlt : i.toNat < l.length := by omega
  have e : l[i.toNat]? = some l[i.toNat] := List.getElem?_eq_getElem hlt
  rw [at_nat h0 e]
  exact h _ e
theorem ixN30 : ixN 3 0 = some 0 := by decide
theorem ixN31 : ixN 3 1 = some 1 := by decide
theorem ixN32 : ixN 3 2 = some 2 := by decide
theorem ix0_0 {α : Type} {a : α} {l : List α} {Q : Nat → Prop} : So0 (ixN (a :: l).length 0) Q = Q 0 := by
  have : ixN (a :: l).length ((0 : Nat) : Int) = some 0 := ixN_ofNat (by simp)
  erw [this]; rfl
theorem ix1_0 {α : Type} {a b : α} {l : List α} {Q : Nat → Prop} : So0 (ixN (a :: b :: l).length 1) Q = Q 1 := by
  have : ixN (a :: b :: l).length ((1 : Nat) : Int) = some 1 := ixN_ofNat (by simp)
  erw [this]; rfl
theorem ix2_0 {α : Type} {a b c : α} {l : List α} {Q : Nat → Prop} : So0 (ixN (a :: b :: c :: l).length 2) Q = Q 2 := by
  have : ixN (a :: b :: c :: l).length ((2 : Nat) : Int) = some 2 := ixN_ofNat (by simp)
  erw [this]; rfl
theorem so_ixN_0 {n : Nat} {i : Int} {Q : Nat → Prop} (h0 : 0 ≤ i) (h1 : i < n) (h : Q i.toNat) : So0 (ixN n i) Q := by
  have : ixN n ((i.toNat : Nat) : Int) = some i.toNat := ixN_ofNat (by omega)
  rw [Int.toNat_of_nonneg h0] at this
  rw [this]; exact h
theorem so_tru_0 {b : Bool} {Q : Bool → Prop} : So0 (tru (.bool b)) Q = Q b := nr rfl
theorem so_iof_0 {Q : Int → Prop} : So0 (iof (.int i)) Q = Q i := nr rfl
theorem so_lof_0 {l : List D} {Q : List D → Prop} : So0 (lof (.list l)) Q = Q l := nr rfl
theorem so_itL_0 {l : List D} {Q : List D → Prop} : So0 (itD (.list l)) Q = Q l := nr rfl
theorem so_itT_0 {l : List D} {Q : List D → Prop} : So0 (itD (.tuple l)) Q = Q l := nr rfl
theorem so_r1_0 {Q : Int → Prop} : So0 (r1D [.int i]) Q = Q i := nr rfl
theorem so_r2_0 {Q : Int × Int → Prop} : So0 (r2D [.int i, .int j]) Q = Q (i, j) := nr rfl
theorem so_abs_0 : So0 (absD [.int i]) Q = Q (.int (if i < 0 then -i else i)) := nr rfl
theorem so_max_0 : So0 (maxD [.int i, .int j]) Q = Q (.int (if j > i then j else i)) := nr rfl
theorem so_min_0 : So0 (minD [.int i, .int j]) Q = Q (.int (if j < i then j else i)) := nr rfl
theorem so_intB_0 {b : Bool} : So0 (intD [.bool b]) Q = Q (.int (if b then 1 else 0)) := nr rfl
theorem so_intI_0 : So0 (intD [.int i]) Q = Q (.int i) := nr rfl
theorem ii_i : isiB "int" (.int i) = true := nr rfl
theorem ib_i : isiB "bool" (.int i) = false := nr rfl
theorem ib_b {b : Bool} : isiB "bool" (.bool b) = true := nr rfl
theorem ii_b {b : Bool} : isiB "int" (.bool b) = true := nr rfl
theorem it_t {l : List D} : isiB "tuple" (.tuple l) = true := nr rfl
theorem it_l {l : List D} : isiB "tuple" (.list l) = false := nr rfl
theorem il_l {l : List D} : isiB "list" (.list l) = true := nr rfl
theorem il_t {l : List D} : isiB "list" (.tuple l) = false := nr rfl
/-! sizes -/
theorem modC_eq : (modC i j = true) = (0 < j) := by unfold modC; simp
theorem divC_any {k : Int} (h : divC 0 j = true) : divC k j = true := by unfold divC at h ⊢; exact h
theorem divC_pos (h : divC i j = true) : 0 < j := by unfold divC at h; exact (of_decide_eq_true h : 0 < j ∧ j.natAbs.log2 < 9000).1
theorem shrC_eq : (shrC i j = true) = (0 ≤ j) := by unfold shrC; simp
theorem powC_eq : (powC i j = true) = (0 ≤ j ∧ j ≤ 1000000 ∧ i.natAbs < 18446744073709551616) := by unfold powC; simp
theorem bits_le {x : Int} {n : Nat} (h : x.natAbs < 2 ^ n) : Builtin.Int.intBits x ≤ n := by
  unfold Builtin.Int.intBits
  split
  · omega
  · rename_i hx
    have : x.natAbs ≠ 0 := by
      intro z
      exact hx (by simpa using z)
    have := (Nat.log2_lt this).mpr h
    omega
theorem mulC_of {m n : Nat} (hi : i.natAbs < 2 ^ m) (hj : j.natAbs < 2 ^ n) (h : m + n ≤ 134217728 := by decide) : mulC i j = true := by
  have := bits_le hi
  have := bits_le hj
  unfold mulC
  exact decide_eq_true (by omega)
theorem divC_of {n : Nat} (h0 : 0 < j) (hj : j.natAbs < 2 ^ n) (h : n ≤ 9000 := by decide) : divC i j = true := by
  unfold divC
  refine decide_eq_true ⟨h0, ?_⟩
  have := (Nat.log2_lt (by omega : j.natAbs ≠ 0)).mpr hj
  omega
theorem shlC_of {m : Nat} (h0 : 0 ≤ j) (hi : i.natAbs < 2 ^ m) (h : (m : Int) + j ≤ 134217728) : shlC i j = true := by
  have := bits_le hi
  unfold shlC
  exact decide_eq_true ⟨h0, by omega⟩
theorem fits_eq {n : Nat} : (fits n = true) = (n ≤ 16777216) := by unfold fits sizeLine; simp
theorem fits0 : (fits 0 = true) = True := nr (by decide)
theorem fits1 : (fits 1 = true) = True := nr (by decide)
theorem fits2 : (fits 2 = true) = True := nr (by decide)
theorem fits3 : (fits 3 = true) = True := nr (by decide)
theorem fits4 : (fits 4 = true) = True := nr (by decide)
theorem fits5 : (fits 5 = true) = True := nr (by decide)
theorem fits6 : (fits 6 = true) = True := nr (by decide)
theorem fits7 : (fits 7 = true) = True := nr (by decide)
theorem fits8 : (fits 8 = true) = True := nr (by decide)
theorem fits9 : (fits 9 = true) = True := nr (by decide)
theorem fits10 : (fits 10 = true) = True := nr (by decide)
theorem fits11 : (fits 11 = true) = True := nr (by decide)
theorem fits12 : (fits 12 = true) = True := nr (by decide)
theorem fits13 : (fits 13 = true) = True := nr (by decide)
theorem fits14 : (fits 14 = true) = True := nr (by decide)
theorem fits15 : (fits 15 = true) = True := nr (by decide)
theorem fits16 : (fits 16 = true) = True := nr (by decide)
theorem rngC_eq : (rngC i j = true) = (-(2 ^ 62) ≤ i ∧ i < 2 ^ 62 ∧ -(2 ^ 62) ≤ j ∧ j < 2 ^ 62) := by unfold rngC; simp
theorem rgC_eq : (rgC i j = true) = (-(2 ^ 62) ≤ i ∧ i < 2 ^ 62 ∧ -(2 ^ 62) ≤ j ∧ j < 2 ^ 62 ∧ (j - i).toNat ≤ 2 ^ 24) := by unfold rgC; simp
/-- xs + ys -/
theorem so_cat_0 {l k : List D} : So0 (addD (.list l) (.list k)) Q = (fits (l.length + k.length) = true ∧ Q (.list (l ++ k))) := by
  show So0 (if fits (l.length + k.length) then some (PyData.list (l ++ k)) else none) Q = _
  exact so_if_0
end
end Z
set_option Elab.async false
set_option linter.all false
set_option maxRecDepth 100000
namespace Z
open PySem L2
section
variable {s : DS} {Nx : DS → Prop} {Rt : D → DS → Prop} {Bk Ct : DS → Prop} {Q : DS → Prop}
theorem so_gN_0 {i : Nat} {d : D} : So0 (gN i d s) Q = Q (s.set i (some d)) := nr rfl
theorem so_gT_0 {n : Nat} {g : List D → DS → Option DS} {xs : List D} : So0 (gT n g (.tuple xs) s) Q = (xs.length = n ∧ So0 (g xs s) Q) := so_dec_0
theorem so_gC_0 {a : MG} {r : List D → DS → Option DS} {x : D} {ys : List D} : So0 (gC a r (x :: ys) s) Q = So0 (a x s) fun s' => So0 (r ys s') Q := by
  show So0 (match a x s with | some s' => r ys s' | none => none) Q = _
  cases a x s <;> rfl
theorem so_gE_0 : So0 (gE [] s) Q = Q s := nr rfl
/-- a for behind its expression -/
def Fo0 (xs : List D) (s : DS) (g : MG) (b : MS) (Nx : DS → Prop) (Rt : D → DS → Prop) (Bk Ct : DS → Prop) (_ : W5 g b Nx Rt (Bk, Ct) := Unit.unit) : Prop := Run0 (loop g b xs) s Nx Rt Bk Ct
theorem run_fo_0 {mi : M (List D)} {g : MG} {b : MS} : Run0 (sFor mi g b) s Nx Rt Bk Ct = Ev0 mi s fun xs s' => Fo0 xs s' g b Nx Rt Bk Ct := by
  unfold Run0 sFor Ev0 Fo0 Run0
  cases mi s <;> rfl
theorem for_it_0 {g : MG} {b : MS} {xs : List D} (I : Nat → DS → Prop) (h0 : I 0 s)
    (ht : ∀ (i : Nat) (d : D) (s1 : DS), xs[i]? = some d → I i s1 → So0 (g d s1) fun s2 => Run0 b s2 (I (i + 1)) Rt Nx (I (i + 1))) (he : ∀ s1, I xs.length s1 → Nx s1) :
    Fo0 xs s g b Nx Rt Bk Ct := by
  have h := run_for_0 (mi := fun s => R.ok xs s) (Bk := Bk) (Ct := Ct) I rfl h0 ht he
  unfold Fo0
  exact h
theorem for_rg_0 {g : MG} {b : MS} {a c : Int} (I : Nat → DS → Prop) (h0 : I 0 s)
    (ht : ∀ (i : Nat) (s1 : DS), a + i < c → I i s1 → So0 (g (.int (a + i)) s1) fun s2 => Run0 b s2 (I (i + 1)) Rt Nx (I (i + 1))) (he : ∀ s1, I (c - a).toNat s1 → Nx s1) :
    Fo0 (rgD a c) s g b Nx Rt Bk Ct := by
  refine for_it_0 I h0 (fun i d s1 h hI => ?_) fun s1 h => he s1 (by rwa [rgD_len] at h)
  obtain ⟨hlt, rfl⟩ := rgD_get h
  exact ht i s1 (by omega) hI
/-- over range(c) -/
theorem for_r0_0 {g : MG} {b : MS} {c : Int} (I : Nat → DS → Prop) (h0 : I 0 s)
    (ht : ∀ (i : Nat) (s1 : DS), (i : Int) < c → I i s1 → So0 (g (.int i) s1) fun s2 => Run0 b s2 (I (i + 1)) Rt Nx (I (i + 1))) (he : ∀ s1, I c.toNat s1 → Nx s1) :
    Fo0 (rgD 0 c) s g b Nx Rt Bk Ct :=
  for_rg_0 I h0 (fun i s1 h hI => by have := ht i s1 (by omega) hI; rwa [Int.zero_add]) fun s1 h => he s1 (by rwa [Int.sub_zero] at h)
/-- over nothing -/
theorem for_nil_0 {g : MG} {b : MS} (h : Nx s) : Fo0 [] s g b Nx Rt Bk Ct := for_it_0 (fun _ s1 => s1 = s) rfl (fun i d s1 hd => by simp at hd) fun s1 e => by subst e; exact h
/-- while -/
def Wh0 (t : M Bool) (b : MS) (s : DS) (Nx : DS → Prop) (Rt : D → DS → Prop) (Bk Ct : DS → Prop) (_ : W5 t b Nx Rt (Bk, Ct) := Unit.unit) : Prop := Run0 (sWhile t b) s Nx Rt Bk Ct
theorem run_wh_0 {t : M Bool} {b : MS} : Run0 (sWhile t b) s Nx Rt Bk Ct = Wh0 t b s Nx Rt Bk Ct := by unfold Wh0; exact nr rfl
theorem wh_by_0 {t : M Bool} {b : MS} (I : DS → Prop) (μ : DS → Nat) (h0 : I s)
    (ht : ∀ s1, I s1 → Ev0 t s1 fun x s2 => Br0 x (Run0 b s2 (fun s3 => I s3 ∧ μ s3 < μ s1) Rt Nx (fun s3 => I s3 ∧ μ s3 < μ s1)) (Nx s2)) : Wh0 t b s Nx Rt Bk Ct := by
  unfold Wh0
  exact run_while_0 I μ h0 ht
theorem divL {i j : Int} (h : 0 < j ∧ j < 18446744073709551616 := by decide) : divC i j = true := divC_of (n := 64) h.1 (by omega)
theorem so_lenL_0 {l : List D} {Q : D → Prop} : So0 (lenD [.list l]) Q = Q (.int l.length) := nr rfl
theorem so_lenT_0 {l : List D} {Q : D → Prop} : So0 (lenD [.tuple l]) Q = Q (.int l.length) := nr rfl
theorem so_slL_0 {l : List D} {lo hi : Option Int} {Q : D → Prop} : So0 (slD (.list l) lo hi) Q = Q (.list (cutD l lo hi)) := nr rfl
theorem cut_mem {l : List D} {lo hi : Option Int} {i : Nat} {d : D} (h : (cutD l lo hi)[i]? = some d) : d ∈ l := by
  have := List.mem_of_getElem? h
  unfold cutD at this
  exact List.mem_of_mem_drop (List.mem_of_mem_take this)
theorem Cl0.out_0 {f : FD} {xs : List D} {Q : D → List D → Prop} (h : Cl0 f xs Q) : ∃ d as, f xs = .ok d as ∧ Q d as := h
theorem nab10 : (Int.natAbs 10 < 18446744073709551616) = True := nr (by decide)
theorem nab2 : (Int.natAbs 2 < 18446744073709551616) = True := nr (by decide)
theorem nap2 (n : Nat) : (2 : Int) ^ n = ((2 ^ n : Nat) : Int) := by simp
theorem abs_pow2 {n : Nat} {x : Int} (h0 : 0 ≤ x) (h : x < 2 ^ n) : x.natAbs < 2 ^ n := by
  rw [nap2] at h
  omega
theorem pow2_pos (n : Nat) : (0 : Int) < 2 ^ n := by
  rw [nap2]
  have := Nat.two_pow_pos n
  omega
theorem pow2_le {m n : Nat} (h : m ≤ n) : (2 : Int) ^ m ≤ 2 ^ n := by
  rw [nap2, nap2]
  exact_mod_cast Nat.pow_le_pow_right (by omega) h
theorem pow2_abs {m n : Nat} (h : m < n) : ((2 : Int) ^ m).natAbs < 2 ^ n := by
  rw [nap2, Int.natAbs_natCast]
  exact Nat.pow_lt_pow_right (by omega) h
/-- 1 << n -/
theorem shl1C {n : Nat} (h : n ≤ 1000000) : shlC 1 n = true := shlC_of (m := 1) (by omega) (by decide) (by omega)
theorem one_shl (n : Nat) : (1 : Int) * 2 ^ ((n : Int).toNat) = 2 ^ n := by rw [Int.toNat_natCast, Int.one_mul]
theorem so_map_0 {α β : Type} {o : Option α} {f : α → β} {Q : β → Prop} : So0 (o.map f) Q = So0 o fun a => Q (f a) := by cases o <;> rfl
end
end Z
set_option Elab.async false
set_option linter.all false
set_option maxRecDepth 100000
namespace Z
open PySem L2
/-! ### in, of flat things -/
def flatD : D → Bool
  | .none => true
  | .bool _ => true
  | .int _ => true
  | .str _ => true
  | _ => false
def eqF : D → D → Bool
  | .none, .none => true
  | .bool a, .bool b => a == b
  | .bool a, .int b => (if a then 1 else 0) == b
  | .int a, .bool b => a == (if b then 1 else 0)
  | .int a, .int b => a == b
  | .str a, .str b => a == b
  | _, _ => false
def inD : D → D → Option D
  | x, .list ys => if flatD x && ys.all flatD then some (.bool (ys.any fun y => eqF y x)) else none
  | x, .tuple ys => if flatD x && ys.all flatD then some (.bool (ys.any fun y => eqF y x)) else none
  | _, _ => none
def notInD : D → D → Option D
  | x, .list ys => if flatD x && ys.all flatD then some (.bool (!ys.any fun y => eqF y x)) else none
  | x, .tuple ys => if flatD x && ys.all flatD then some (.bool (!ys.any fun y => eqF y x)) else none
  | _, _ => none
section
variable {K : Fg} {F : Hp}
theorem flat_dp {v : V} {d : D} (h : Dp K F v d) (f : flatD d = true) : flatV v = true := by
  cases h <;> first | rfl | exact absurd f (by simp [flatD])
theorem eqF_dp {v u : V} {d e : D} (h : Dp K F v d) (g : Dp K F u e) (f1 : flatD d = true) (f2 : flatD e = true) : eqV v u = eqF d e := by
  cases h <;> cases g <;> first | rfl | exact absurd f1 (by simp [flatD]) | exact absurd f2 (by simp [flatD])
theorem flats_dp : ∀ {vs : List V} {ds : List D}, DpAll K F vs ds → ds.all flatD = true → vs.all flatV = true
  | _, _, .nil, _ => rfl
  | _, _, .cons h t, f => by
    rw [List.all_cons, Bool.and_eq_true] at f ⊢
    exact ⟨flat_dp h f.1, flats_dp t f.2⟩
theorem any_dp {x : V} {dx : D} (hx : Dp K F x dx) (fx : flatD dx = true) : ∀ {vs : List V} {ds : List D}, DpAll K F vs ds → ds.all flatD = true → (vs.any fun y => eqV y x) = ds.any fun y => eqF y dx
  | _, _, .nil, _ => rfl
  | _, _, .cons h t, f => by
    rw [List.all_cons, Bool.and_eq_true] at f
    rw [List.any_cons, List.any_cons, eqF_dp h hx f.1 fx, any_dp hx fx t f.2]
theorem vw_flat {H : Hp} {x : V} {d : D} (h : Vw K F H x d) (f : flatD d = true) : Dp K F x d := by
  rcases h with h | ⟨p, xs, ds, rfl, rfl, hp, al⟩
  · exact h
  · exact absurd f (by simp [flatD])
theorem g_in : OpG K (rIn K false) inD := fun F H x y dx dy d sF vx vy e Q q => by
  unfold inD at e
  split at e
  · split at e
    · rename_i hf
      rw [Bool.and_eq_true] at hf
      cases e
      obtain ⟨p, xs, rfl, sq, al⟩ := vy.lst sF
      have dx := vw_flat vx hf.1
      refine ⟨p, xs, rfl, .inl sq, flat_dp dx hf.1, flats_dp al hf.2, ?_⟩
      unfold inV
      rw [any_dp dx hf.1 al hf.2]
      exact q F H _ .refl (.bl _)
    · cases e
  · split at e
    · rename_i hf
      rw [Bool.and_eq_true] at hf
      cases e
      obtain ⟨p, xs, rfl, sq, al⟩ := vy.tup sF
      have dx := vw_flat vx hf.1
      refine ⟨p, xs, rfl, .inr sq, flat_dp dx hf.1, flats_dp al hf.2, ?_⟩
      unfold inV
      rw [any_dp dx hf.1 al hf.2]
      exact q F H _ .refl (.bl _)
    · cases e
  · cases e
theorem g_notIn : OpG K (rIn K true) notInD := fun F H x y dx dy d sF vx vy e Q q => by
  unfold notInD at e
  split at e
  · split at e
    · rename_i hf
      rw [Bool.and_eq_true] at hf
      cases e
      obtain ⟨p, xs, rfl, sq, al⟩ := vy.lst sF
      have dx := vw_flat vx hf.1
      refine ⟨p, xs, rfl, .inl sq, flat_dp dx hf.1, flats_dp al hf.2, ?_⟩
      unfold inV
      rw [any_dp dx hf.1 al hf.2]
      exact q F H _ .refl (.bl _)
    · cases e
  · split at e
    · rename_i hf
      rw [Bool.and_eq_true] at hf
      cases e
      obtain ⟨p, xs, rfl, sq, al⟩ := vy.tup sF
      have dx := vw_flat vx hf.1
      refine ⟨p, xs, rfl, .inr sq, flat_dp dx hf.1, flats_dp al hf.2, ?_⟩
      unfold inV
      rw [any_dp dx hf.1 al hf.2]
      exact q F H _ .refl (.bl _)
    · cases e
  · cases e
end
section
variable {Q : D → Prop} {x : D} {l : List D}
theorem so_inL_0 : So0 (inD x (.list l)) Q = ((flatD x && l.all flatD) = true ∧ Q (.bool (l.any fun y => eqF y x))) := by
  show So0 (if (flatD x && l.all flatD) = true then some (PyData.bool (l.any fun y => eqF y x)) else none) Q = _
  exact so_if_0
theorem so_inT_0 : So0 (inD x (.tuple l)) Q = ((flatD x && l.all flatD) = true ∧ Q (.bool (l.any fun y => eqF y x))) := by
  show So0 (if (flatD x && l.all flatD) = true then some (PyData.bool (l.any fun y => eqF y x)) else none) Q = _
  exact so_if_0
theorem so_ninL_0 : So0 (notInD x (.list l)) Q = ((flatD x && l.all flatD) = true ∧ Q (.bool (!l.any fun y => eqF y x))) := by
  show So0 (if (flatD x && l.all flatD) = true then some (PyData.bool (!l.any fun y => eqF y x)) else none) Q = _
  exact so_if_0
theorem so_ninT_0 : So0 (notInD x (.tuple l)) Q = ((flatD x && l.all flatD) = true ∧ Q (.bool (!l.any fun y => eqF y x))) := by
  show So0 (if (flatD x && l.all flatD) = true then some (PyData.bool (!l.any fun y => eqF y x)) else none) Q = _
  exact so_if_0
end
end Z
set_option Elab.async false
set_option linter.all false
set_option maxRecDepth 100000
namespace Z
open PySem L2
/-! ### the same, closed: nothing looks into them by itself -/
@[irreducible] def Ev {α : Type} (m : M α) (s : DS) (Q : α → DS → Prop) (_ : W2 m Q := Unit.unit) : Prop := Ev0 m s Q
@[irreducible] def Run (b : MS) (s : DS) (Nx : DS → Prop) (Rt : D → DS → Prop) (Bk Ct : DS → Prop) (_ : W5 b Nx Rt Bk Ct := Unit.unit) : Prop := Run0 b s Nx Rt Bk Ct
@[irreducible] def So {α : Type} (o : Option α) (Q : α → Prop) (_ : W1 Q := Unit.unit) : Prop := So0 o Q
@[irreducible] def Br (x : Bool) (A B : Prop) (_ : W2 A B := Unit.unit) : Prop := Br0 x A B
@[irreducible] def Cl (f : FD) (xs : List D) (Q : D → List D → Prop) (_ : W2 f Q := Unit.unit) : Prop := Cl0 f xs Q
@[irreducible] def Fo (xs : List D) (s : DS) (g : MG) (b : MS) (Nx : DS → Prop) (Rt : D → DS → Prop) (Bk Ct : DS → Prop) (_ : W5 g b Nx Rt (Bk, Ct) := Unit.unit) : Prop := Fo0 xs s g b Nx Rt Bk Ct
@[irreducible] def Wh (t : M Bool) (b : MS) (s : DS) (Nx : DS → Prop) (Rt : D → DS → Prop) (Bk Ct : DS → Prop) (_ : W5 t b Nx Rt (Bk, Ct) := Unit.unit) : Prop := Wh0 t b s Nx Rt Bk Ct
theorem br_t {A B : Prop} : Br true A B = A := by with_unfolding_all exact br_t_0
theorem br_f {A B : Prop} : Br false A B = B := by with_unfolding_all exact br_f_0
theorem br_i {x : Bool} {A B : Prop} (h1 : x = true → A) (h2 : x = false → B) : Br x A B := by with_unfolding_all exact br_i_0 h1 h2
theorem br_d {p : Prop} [Decidable p] {A B : Prop} (h1 : p → A) (h2 : ¬ p → B) : Br (decide p) A B := br_i (fun h => h1 (of_decide_eq_true h)) fun h => h2 (of_decide_eq_false h)
theorem br_y {p : Prop} [Decidable p] {A B : Prop} (h : p) (h1 : A) : Br (decide p) A B := br_d (fun _ => h1) fun z => absurd h z
theorem br_n {p : Prop} [Decidable p] {A B : Prop} (h : ¬ p) (h1 : B) : Br (decide p) A B := br_d (fun z => absurd z h) fun _ => h1
/-- not p: the way of a test that holds is not taken -/
theorem br_ny {p : Prop} [Decidable p] {A B : Prop} (h : p) (h1 : B) : Br (!decide p) A B := br_i (fun z => by simp [h] at z) fun _ => h1
theorem br_nn {p : Prop} [Decidable p] {A B : Prop} (h : ¬ p) (h1 : A) : Br (!decide p) A B := br_i (fun _ => h1) fun z => by simp [h] at z
theorem br_nd {p : Prop} [Decidable p] {A B : Prop} (h1 : ¬ p → A) (h2 : p → B) : Br (!decide p) A B := br_i (fun h => h1 (by simpa using h)) fun h => h2 (by simpa using h)
theorem Cl.of {f : FD} {xs : List D} {Q : D → List D → Prop} {d : D} {as : List D} (h : f xs = .ok d as) (q : Q d as) : Cl f xs Q := by with_unfolding_all exact ⟨d, as, h, q⟩
theorem Cl.out {f : FD} {xs : List D} {Q : D → List D → Prop} (h : Cl f xs Q) : ∃ d as, f xs = .ok d as ∧ Q d as := by with_unfolding_all exact h
theorem Cl.mono {f : FD} {xs : List D} {Q Q' : D → List D → Prop} (h : Cl f xs Q) (g : ∀ d as, Q d as → Q' d as) : Cl f xs Q' := by
  obtain ⟨d, as, e, q⟩ := h.out
  exact .of e (g d as q)
theorem ev_mono {α : Type} {m : M α} {s : DS} {Q Q' : α → DS → Prop} (h : Ev m s Q) (f : ∀ a s', Q a s' → Q' a s') : Ev m s Q' := by with_unfolding_all exact ev_mono_0 h f
theorem run_mono {b : MS} {s : DS} {Nx Bk Ct : DS → Prop} {Rt : D → DS → Prop} {Nx' Bk' Ct' : DS → Prop} {Rt' : D → DS → Prop} (h : Run b s Nx Rt Bk Ct) (f1 : ∀ s', Nx s' → Nx' s') (f2 : ∀ d s', Rt d s' → Rt' d s') (f3 : ∀ s', Bk s' → Bk' s') (f4 : ∀ s', Ct s' → Ct' s') : Run b s Nx' Rt' Bk' Ct' := by with_unfolding_all exact run_mono_0 h f1 f2 f3 f4
theorem fn_cl {N n : Nat} {rk : Kd} {b : MS} {args : List D} {Q : D → List D → Prop} (hl : args.length = n) (h : Run b (entry N args) (fun s => rk = .sh ∧ So ((List.range n).mapM (look s)) fun as => Q .none as) (fun d s => So ((List.range n).mapM (look s)) fun as => Q d as) (fun _ => False) (fun _ => False)) :
    Cl (fnD N n rk b) args Q := by with_unfolding_all exact fn_cl_0 hl h
theorem so_at {l : List D} {i : Int} {Q : D → Prop} (h0 : 0 ≤ i) (h1 : i < l.length) (h : ∀ v, l[i.toNat]? = some v → Q v) : So (atI l i) Q := by with_unfolding_all exact so_at_0 h0 h1 h
theorem so_ixN {n : Nat} {i : Int} {Q : Nat → Prop} (h0 : 0 ≤ i) (h1 : i < n) (h : Q i.toNat) : So (ixN n i) Q := by with_unfolding_all exact so_ixN_0 h0 h1 h
section
variable {s : DS} {Nx : DS → Prop} {Rt : D → DS → Prop} {Bk Ct : DS → Prop}
theorem for_it {g : MG} {b : MS} {xs : List D} (I : Nat → DS → Prop) (h0 : I 0 s)
    (ht : ∀ (i : Nat) (d : D) (s1 : DS), xs[i]? = some d → I i s1 → So (g d s1) fun s2 => Run b s2 (I (i + 1)) Rt Nx (I (i + 1))) (he : ∀ s1, I xs.length s1 → Nx s1) :
    Fo xs s g b Nx Rt Bk Ct := by with_unfolding_all exact for_it_0 I h0 ht he
theorem for_rg {g : MG} {b : MS} {a c : Int} (I : Nat → DS → Prop) (h0 : I 0 s)
    (ht : ∀ (i : Nat) (s1 : DS), a + i < c → I i s1 → So (g (.int (a + i)) s1) fun s2 => Run b s2 (I (i + 1)) Rt Nx (I (i + 1))) (he : ∀ s1, I (c - a).toNat s1 → Nx s1) :
    Fo (rgD a c) s g b Nx Rt Bk Ct := by with_unfolding_all exact for_rg_0 I h0 ht he
theorem for_r0 {g : MG} {b : MS} {c : Int} (I : Nat → DS → Prop) (h0 : I 0 s)
    (ht : ∀ (i : Nat) (s1 : DS), (i : Int) < c → I i s1 → So (g (.int i) s1) fun s2 => Run b s2 (I (i + 1)) Rt Nx (I (i + 1))) (he : ∀ s1, I c.toNat s1 → Nx s1) :
    Fo (rgD 0 c) s g b Nx Rt Bk Ct := by with_unfolding_all exact for_r0_0 I h0 ht he
theorem for_nil {g : MG} {b : MS} (h : Nx s) : Fo [] s g b Nx Rt Bk Ct := by with_unfolding_all exact for_nil_0 h
theorem wh_by {t : M Bool} {b : MS} (I : DS → Prop) (μ : DS → Nat) (h0 : I s)
    (ht : ∀ s1, I s1 → Ev t s1 fun x s2 => Br x (Run b s2 (fun s3 => I s3 ∧ μ s3 < μ s1) Rt Nx (fun s3 => I s3 ∧ μ s3 < μ s1)) (Nx s2)) : Wh t b s Nx Rt Bk Ct := by with_unfolding_all exact wh_by_0 I μ h0 ht
end
section
variable {α β : Type} {s : DS} {Nx Bk Ct : DS → Prop} {Rt : D → DS → Prop}
theorem so_some {a : α} {Q : α → Prop} : So (some a) Q = Q a := by with_unfolding_all exact so_some_0
theorem so_none {Q : α → Prop} : So (none : Option α) Q = False := by with_unfolding_all exact so_none_0
theorem so_if {c : Bool} {o : Option α} {Q : α → Prop} : So (if c = true then o else none) Q = (c = true ∧ So o Q) := by with_unfolding_all exact so_if_0
theorem so_dec {c : Prop} [Decidable c] {o : Option α} {Q : α → Prop} : So (if c then o else none) Q = (c ∧ So o Q) := by with_unfolding_all exact so_dec_0
theorem ev_bnd {m : M α} {f : α → M β} {Q : β → DS → Prop} : Ev (bnd m f) s Q = Ev m s fun a s' => Ev (f a) s' Q := by with_unfolding_all exact ev_bnd_0
theorem ev_ok {a : α} {Q : α → DS → Prop} : Ev (fun s => R.ok a s) s Q = Q a s := by with_unfolding_all exact ev_ok_0
theorem ev_opt {o : Option α} {Q : α → DS → Prop} : Ev (opt o) s Q = So o fun a => Q a s := by with_unfolding_all exact ev_opt_0
theorem ev_var {i : Nat} {Q : D → DS → Prop} : Ev (mVar i) s Q = So (look s i) fun d => Q d s := by with_unfolding_all exact ev_var_0
theorem ev_C {d : D} {Q : D → DS → Prop} : Ev (mC d) s Q = Q d s := by with_unfolding_all exact ev_C_0
theorem ev_V {m : M D} {Q : BR → DS → Prop} : Ev (mV m) s Q = Ev m s fun d s' => Q (.val d) s' := by with_unfolding_all exact ev_V_0
theorem ev_slot {i : Nat} {Q : BR → DS → Prop} : Ev (mSlot i) s Q = So (look s i) fun _ => Q (.slot i) s := by with_unfolding_all exact ev_slot_0
theorem ev_op {f : D → D → Option D} {a b : M BR} {Q : D → DS → Prop} : Ev (mOp f a b) s Q = Ev a s fun x s1 => Ev b s1 fun y s2 => So (res s2 x) fun dx => So (res s2 y) fun dy => So (f dx dy) fun d => Q d s2 := by with_unfolding_all exact ev_op_0
theorem ev_un {f : D → Option D} {a : M BR} {Q : D → DS → Prop} : Ev (mUn f a) s Q = Ev a s fun x s1 => So (res s1 x) fun dx => So (f dx) fun d => Q d s1 := by with_unfolding_all exact ev_un_0
theorem ev_B {m : M D} {Q : Bool → DS → Prop} : Ev (mB m) s Q = Ev m s fun d s' => So (tru d) fun b => Q b s' := by with_unfolding_all exact ev_B_0
theorem ev_not {a : M Bool} {Q : Bool → DS → Prop} : Ev (mNot a) s Q = Ev a s fun x s' => Q (!x) s' := by with_unfolding_all exact ev_not_0
theorem ev_notV {a : M D} {Q : D → DS → Prop} : Ev (mNotV a) s Q = Ev (mB a) s fun x s' => Q (.bool (!x)) s' := by with_unfolding_all exact ev_notV_0
theorem ev_nil {Q : List D → DS → Prop} : Ev mNil s Q = Q [] s := by with_unfolding_all exact ev_nil_0
theorem ev_cons {a : M D} {r : M (List D)} {Q : List D → DS → Prop} : Ev (mCons a r) s Q = Ev a s fun x s1 => Ev r s1 fun xs s2 => Q (x :: xs) s2 := by with_unfolding_all exact ev_cons_0
theorem ev_nilB {Q : List BR → DS → Prop} : Ev mNilB s Q = Q [] s := by with_unfolding_all exact ev_nilB_0
theorem ev_consB {a : M BR} {r : M (List BR)} {Q : List BR → DS → Prop} : Ev (mConsB a r) s Q = Ev a s fun x s1 => Ev r s1 fun xs s2 => Q (x :: xs) s2 := by with_unfolding_all exact ev_consB_0
theorem ev_tup {a : M (List D)} {Q : D → DS → Prop} : Ev (mTup a) s Q = Ev a s fun xs s' => fits xs.length = true ∧ Q (.tuple xs) s' := by with_unfolding_all exact ev_tup_0
theorem ev_lst {a : M (List D)} {Q : D → DS → Prop} : Ev (mLst a) s Q = Ev a s fun xs s' => fits xs.length = true ∧ Q (.list xs) s' := by with_unfolding_all exact ev_lst_0
theorem ev_B1 {f : List D → Option D} {a : M (List BR)} {Q : D → DS → Prop} : Ev (mB1 f a) s Q = Ev a s fun xs s' => So (xs.mapM (res s')) fun ds => So (f ds) fun d => Q d s' := by with_unfolding_all exact ev_B1_0
theorem ev_sl {a : M BR} {lo hi : M (Option Int)} {Q : D → DS → Prop} : Ev (mSl a lo hi) s Q = Ev a s fun x s1 => Ev lo s1 fun l s2 => Ev hi s2 fun h s3 => So (res s3 x) fun d => So (slD d l h) fun r => Q r s3 := by with_unfolding_all exact ev_sl_0
theorem ev_P0 {Q : Option Int → DS → Prop} : Ev mP0 s Q = Q none s := by with_unfolding_all exact ev_P0_0
theorem ev_P1 {m : M D} {Q : Option Int → DS → Prop} : Ev (mP1 m) s Q = Ev m s fun d s' => So (iof d) fun i => Q (some i) s' := by with_unfolding_all exact ev_P1_0
theorem ev_Rg1 {m : M D} {Q : Int × Int → DS → Prop} : Ev (mRg1 m) s Q = Ev m s fun d s' => So (iof d) fun i => Q (0, i) s' := by with_unfolding_all exact ev_Rg1_0
theorem ev_Rg2 {m n : M D} {Q : Int × Int → DS → Prop} : Ev (mRg2 m n) s Q = Ev m s fun d s1 => Ev n s1 fun e s' => So (iof d) fun i => So (iof e) fun j => Q (i, j) s' := by with_unfolding_all exact ev_Rg2_0
theorem ev_LstRg {m : M (Int × Int)} {Q : D → DS → Prop} : Ev (mLstRg m) s Q = Ev m s fun p s' => rgC p.1 p.2 = true ∧ Q (.list (rgD p.1 p.2)) s' := by with_unfolding_all exact ev_LstRg_0
theorem ev_It {m : M D} {Q : List D → DS → Prop} : Ev (mIt m) s Q = Ev m s fun d s' => So (itD d) fun xs => Q xs s' := by with_unfolding_all exact ev_It_0
theorem ev_R1 {m : M (List D)} {Q : List D → DS → Prop} : Ev (mR1 m) s Q = Ev m s fun d s' => So (r1D d) fun j => rngC 0 j = true ∧ Q (rgD 0 j) s' := by with_unfolding_all exact ev_R1_0
theorem ev_R2 {m : M (List D)} {Q : List D → DS → Prop} : Ev (mR2 m) s Q = Ev m s fun d s' => So (r2D d) fun p => rngC p.1 p.2 = true ∧ Q (rgD p.1 p.2) s' := by with_unfolding_all exact ev_R2_0
theorem run_nx : Run sNx s Nx Rt Bk Ct = Nx s := by with_unfolding_all exact run_nx_0
theorem run_no : Run sNo s Nx Rt Bk Ct = False := by with_unfolding_all exact run_no_0
theorem run_bk : Run sBk s Nx Rt Bk Ct = Bk s := by with_unfolding_all exact run_bk_0
theorem run_ct : Run sCt s Nx Rt Bk Ct = Ct s := by with_unfolding_all exact run_ct_0
theorem run_seq {a b : MS} : Run (sSeq a b) s Nx Rt Bk Ct = Run a s (fun s' => Run b s' Nx Rt Bk Ct) Rt Bk Ct := by with_unfolding_all exact run_seq_0
theorem run_set {i : Nat} {m : M D} : Run (sSet i m) s Nx Rt Bk Ct = Ev m s fun d s' => Nx (s'.set i (some d)) := by with_unfolding_all exact run_set_0
theorem run_drop {m : M D} : Run (sDrop m) s Nx Rt Bk Ct = Ev m s fun _ s' => Nx s' := by with_unfolding_all exact run_drop_0
theorem run_ret {m : M D} : Run (sRet m) s Nx Rt Bk Ct = Ev m s fun d s' => Rt d s' := by with_unfolding_all exact run_ret_0
theorem run_asg {m : M D} {g : MG} : Run (sAsg m g) s Nx Rt Bk Ct = Ev m s fun d s' => So (g d s') fun s2 => Nx s2 := by with_unfolding_all exact run_asg_0
theorem run_app {i : Nat} {m : M D} : Run (sApp i m) s Nx Rt Bk Ct = So (look s i) fun d0 => So (lof d0) fun _ => Ev m s fun d s' => So (look s' i) fun d1 => So (lof d1) fun xs => decide (xs.length < sizeLine) = true ∧ Nx (s'.set i (some (.list (xs ++ [d])))) := by with_unfolding_all exact run_app_0
theorem run_put {i : Nat} {me m : M D} : Run (sPut i me m) s Nx Rt Bk Ct = Ev m s fun d s1 => So (look s1 i) fun d0 => So (lof d0) fun _ => Ev me s1 fun k s2 => So (iof k) fun z => So (look s2 i) fun d1 => So (lof d1) fun xs => So (ixN xs.length z) fun j => Nx (s2.set i (some (.list (xs.set j d)))) := by with_unfolding_all exact run_put_0
theorem run_aug {i : Nat} {f : D → D → Option D} {m : M D} : Run (sAug i f m) s Nx Rt Bk Ct = So (look s i) fun x => Ev m s fun y s' => So (f x y) fun z => Nx (s'.set i (some z)) := by with_unfolding_all exact run_aug_0
theorem run_frz {i : Nat} {b : MS} : Run (sFrz i b) s Nx Rt Bk Ct = So (look s i) fun _ => Run b s Nx Rt Bk Ct := by with_unfolding_all exact run_frz_0
theorem run_kill {i : Nat} {b : MS} : Run (sKill i b) s Nx Rt Bk Ct = Run b (s.set i none) Nx Rt Bk Ct := by with_unfolding_all exact run_kill_0
end
section
variable {s : DS} {Nx : DS → Prop} {Rt : D → DS → Prop} {Bk Ct : DS → Prop}
theorem so_bind {α β : Type} {o : Option α} {f : α → Option β} {Q : β → Prop} : So (o >>= f) Q = So o fun a => So (f a) Q := by with_unfolding_all exact so_bind_0
theorem so_pure {α : Type} {a : α} {Q : α → Prop} : So (pure a) Q = Q a := by with_unfolding_all exact so_pure_0
theorem so_mapN {α β : Type} {f : α → Option β} {Q : List β → Prop} : So (List.mapM f []) Q = Q [] := by with_unfolding_all exact so_mapN_0
theorem so_mapC {α β : Type} {f : α → Option β} {x : α} {l : List α} {Q : List β → Prop} : So (List.mapM f (x :: l)) Q = So (f x) fun a => So (List.mapM f l) fun as => Q (a :: as) := by with_unfolding_all exact so_mapC_0
theorem lks_eq {n : Nat} {Q : List D → Prop} : So ((List.range n).mapM (look s)) Q = So ((List.range' 0 n).mapM (look s)) Q := by with_unfolding_all exact lks_eq_0
theorem xv_and {a b : M Bool} {Q : Bool → DS → Prop} : Ev (mAnd a b) s Q = Ev a s fun x s' => Br x (Ev b s' Q) (Q false s') := by with_unfolding_all exact xv_and_0
theorem xv_or {a b : M Bool} {Q : Bool → DS → Prop} : Ev (mOr a b) s Q = Ev a s fun x s' => Br x (Q true s') (Ev b s' Q) := by with_unfolding_all exact xv_or_0
theorem xv_andV {a b : M D} {Q : D → DS → Prop} : Ev (mAndV a b) s Q = Ev (mB a) s fun x s' => Br x (Ev b s' Q) (Q (.bool false) s') := by with_unfolding_all exact xv_andV_0
theorem xv_orV {a b : M D} {Q : D → DS → Prop} : Ev (mOrV a b) s Q = Ev (mB a) s fun x s' => Br x (Q (.bool true) s') (Ev b s' Q) := by with_unfolding_all exact xv_orV_0
theorem xv_if {t : M Bool} {a b : M D} {Q : D → DS → Prop} : Ev (mIf t a b) s Q = Ev t s fun x s' => Br x (Ev a s' Q) (Ev b s' Q) := by with_unfolding_all exact xv_if_0
theorem xv_chain {f g : D → D → Option D} {a b c : M D} {Q : D → DS → Prop} : Ev (mChain f g a b c) s Q = Ev a s fun x s1 => Ev b s1 fun y s2 => So (f x y) fun z => So (tru z) fun k => Br k (Ev c s2 fun w s3 => So (g y w) fun r => Q r s3) (Q (.bool false) s2) := by with_unfolding_all exact xv_chain_0
theorem xr_if {t : M Bool} {a b : MS} : Run (sIf t a b) s Nx Rt Bk Ct = Ev t s fun x s' => Br x (Run a s' Nx Rt Bk Ct) (Run b s' Nx Rt Bk Ct) := by with_unfolding_all exact xr_if_0
theorem xv_call {f : FD} {n : Nat} {a : M (List D)} {Q : D → DS → Prop} : Ev (mCall f n a) s Q = Ev a s fun xs s' => xs.length = n ∧ Cl f xs fun d _ => Q d s' := by with_unfolding_all exact xv_call_0
theorem xv_call1 {f : FD} {n j : Nat} {a : M (List D)} {Q : D → DS → Prop} : Ev (mCall1 f n j a) s Q = So (look s j) fun _ => Ev a s fun xs s' => So (look s' j) fun e => xs.length = n ∧ Cl f (e :: xs) fun d as => So (hdO as) fun e' => Q d (s'.set j (some e')) := by with_unfolding_all exact xv_call1_0
theorem xv_callT {f : FD} {n : Nat} {m0 : M D} {a : M (List D)} {Q : D → DS → Prop} : Ev (mCallT f n m0 a) s Q = Ev m0 s fun e s1 => Ev a s1 fun xs s' => xs.length = n ∧ Cl f (e :: xs) fun d as => So (hdO as) fun _ => Q d s' := by with_unfolding_all exact xv_callT_0
theorem hdC {a : D} {as : List D} {Q : D → Prop} : So (hdO (a :: as)) Q = Q a := by with_unfolding_all exact hdC_0
variable {i j : Int} {Q : D → Prop}
theorem so_add : So (addD (.int i) (.int j)) Q = Q (.int (i + j)) := by with_unfolding_all exact so_add_0
theorem so_sub : So (subI (.int i) (.int j)) Q = Q (.int (i - j)) := by with_unfolding_all exact so_sub_0
theorem so_addN : So (addN (.int i) (.int j)) Q = Q (.int (i + j)) := by with_unfolding_all exact so_addN_0
theorem so_subN : So (subN (.int i) (.int j)) Q = Q (.int (i - j)) := by with_unfolding_all exact so_subN_0
theorem so_mul : So (mulI (.int i) (.int j)) Q = (mulC i j = true ∧ Q (.int (i * j))) := by with_unfolding_all exact so_mul_0
theorem so_div : So (divI (.int i) (.int j)) Q = (divC i j = true ∧ Q (.int (i / j))) := by with_unfolding_all exact so_div_0
theorem so_mod : So (modI (.int i) (.int j)) Q = (modC i j = true ∧ Q (.int (i % j))) := by with_unfolding_all exact so_mod_0
theorem so_pow : So (powI (.int i) (.int j)) Q = (powC i j = true ∧ Q (.int (i ^ j.toNat))) := by with_unfolding_all exact so_pow_0
theorem so_shl : So (shlI (.int i) (.int j)) Q = (shlC i j = true ∧ Q (.int (i * 2 ^ j.toNat))) := by with_unfolding_all exact so_shl_0
theorem so_shr : So (shrI (.int i) (.int j)) Q = (shrC i j = true ∧ Q (.int (i / 2 ^ j.toNat))) := by with_unfolding_all exact so_shr_0
theorem so_and : So (andI (.int i) (.int j)) Q = Q (.int (Builtin.bitAnd i j)) := by with_unfolding_all exact so_and_0
theorem so_or : So (orI (.int i) (.int j)) Q = Q (.int (Builtin.bitOr i j)) := by with_unfolding_all exact so_or_0
theorem so_xor : So (xorI (.int i) (.int j)) Q = Q (.int (Builtin.bitXor i j)) := by with_unfolding_all exact so_xor_0
theorem so_lt : So (ltI (.int i) (.int j)) Q = Q (.bool (decide (i < j))) := by with_unfolding_all exact so_lt_0
theorem so_le : So (leI (.int i) (.int j)) Q = Q (.bool (decide (i ≤ j))) := by with_unfolding_all exact so_le_0
theorem so_gt : So (gtI (.int i) (.int j)) Q = Q (.bool (decide (j < i))) := by with_unfolding_all exact so_gt_0
theorem so_ge : So (geI (.int i) (.int j)) Q = Q (.bool (decide (j ≤ i))) := by with_unfolding_all exact so_ge_0
theorem so_eqI : So (eqD (.int i) (.int j)) Q = Q (.bool (decide (i = j))) := by with_unfolding_all exact so_eqI_0
theorem so_neI : So (neD (.int i) (.int j)) Q = Q (.bool (!decide (i = j))) := by with_unfolding_all exact so_neI_0
theorem so_neg : So (negI (.int i)) Q = Q (.int (-i)) := by with_unfolding_all exact so_neg_0
theorem so_isN {d : D} : So (isN d .none) Q = Q (.bool (nonB d)) := by with_unfolding_all exact so_isN_0
theorem so_notN {d : D} : So (notN d .none) Q = Q (.bool (!nonB d)) := by with_unfolding_all exact so_notN_0
theorem so_ixL {l : List D} : So (ixD (.list l) (.int i)) Q = So (atI l i) Q := by with_unfolding_all exact so_ixL_0
theorem so_ixT {l : List D} : So (ixD (.tuple l) (.int i)) Q = So (atI l i) Q := by with_unfolding_all exact so_ixT_0
theorem ix0 {α : Type} {a : α} {l : List α} {Q : Nat → Prop} : So (ixN (a :: l).length 0) Q = Q 0 := by with_unfolding_all exact ix0_0
theorem ix1 {α : Type} {a b : α} {l : List α} {Q : Nat → Prop} : So (ixN (a :: b :: l).length 1) Q = Q 1 := by with_unfolding_all exact ix1_0
theorem ix2 {α : Type} {a b c : α} {l : List α} {Q : Nat → Prop} : So (ixN (a :: b :: c :: l).length 2) Q = Q 2 := by with_unfolding_all exact ix2_0
theorem so_tru {b : Bool} {Q : Bool → Prop} : So (tru (.bool b)) Q = Q b := by with_unfolding_all exact so_tru_0
theorem so_iof {Q : Int → Prop} : So (iof (.int i)) Q = Q i := by with_unfolding_all exact so_iof_0
theorem so_lof {l : List D} {Q : List D → Prop} : So (lof (.list l)) Q = Q l := by with_unfolding_all exact so_lof_0
theorem so_itL {l : List D} {Q : List D → Prop} : So (itD (.list l)) Q = Q l := by with_unfolding_all exact so_itL_0
theorem so_itT {l : List D} {Q : List D → Prop} : So (itD (.tuple l)) Q = Q l := by with_unfolding_all exact so_itT_0
theorem so_r1 {Q : Int → Prop} : So (r1D [.int i]) Q = Q i := by with_unfolding_all exact so_r1_0
theorem so_r2 {Q : Int × Int → Prop} : So (r2D [.int i, .int j]) Q = Q (i, j) := by with_unfolding_all exact so_r2_0
theorem so_abs : So (absD [.int i]) Q = Q (.int (if i < 0 then -i else i)) := by with_unfolding_all exact so_abs_0
theorem so_max : So (maxD [.int i, .int j]) Q = Q (.int (if j > i then j else i)) := by with_unfolding_all exact so_max_0
theorem so_min : So (minD [.int i, .int j]) Q = Q (.int (if j < i then j else i)) := by with_unfolding_all exact so_min_0
theorem so_intB {b : Bool} : So (intD [.bool b]) Q = Q (.int (if b then 1 else 0)) := by with_unfolding_all exact so_intB_0
theorem so_intI : So (intD [.int i]) Q = Q (.int i) := by with_unfolding_all exact so_intI_0
theorem so_cat {l k : List D} : So (addD (.list l) (.list k)) Q = (fits (l.length + k.length) = true ∧ Q (.list (l ++ k))) := by with_unfolding_all exact so_cat_0
end
section
variable {s : DS} {Nx : DS → Prop} {Rt : D → DS → Prop} {Bk Ct : DS → Prop} {Q : DS → Prop}
theorem so_gN {i : Nat} {d : D} : So (gN i d s) Q = Q (s.set i (some d)) := by with_unfolding_all exact so_gN_0
theorem so_gT {n : Nat} {g : List D → DS → Option DS} {xs : List D} : So (gT n g (.tuple xs) s) Q = (xs.length = n ∧ So (g xs s) Q) := by with_unfolding_all exact so_gT_0
theorem so_gC {a : MG} {r : List D → DS → Option DS} {x : D} {ys : List D} : So (gC a r (x :: ys) s) Q = So (a x s) fun s' => So (r ys s') Q := by with_unfolding_all exact so_gC_0
theorem so_gE : So (gE [] s) Q = Q s := by with_unfolding_all exact so_gE_0
theorem run_fo {mi : M (List D)} {g : MG} {b : MS} : Run (sFor mi g b) s Nx Rt Bk Ct = Ev mi s fun xs s' => Fo xs s' g b Nx Rt Bk Ct := by with_unfolding_all exact run_fo_0
theorem run_wh {t : M Bool} {b : MS} : Run (sWhile t b) s Nx Rt Bk Ct = Wh t b s Nx Rt Bk Ct := by with_unfolding_all exact run_wh_0
theorem so_lenL {l : List D} {Q : D → Prop} : So (lenD [.list l]) Q = Q (.int l.length) := by with_unfolding_all exact so_lenL_0
theorem so_lenT {l : List D} {Q : D → Prop} : So (lenD [.tuple l]) Q = Q (.int l.length) := by with_unfolding_all exact so_lenT_0
theorem so_slL {l : List D} {lo hi : Option Int} {Q : D → Prop} : So (slD (.list l) lo hi) Q = Q (.list (cutD l lo hi)) := by with_unfolding_all exact so_slL_0
theorem so_map {α β : Type} {o : Option α} {f : α → β} {Q : β → Prop} : So (o.map f) Q = So o fun a => Q (f a) := by with_unfolding_all exact so_map_0
end
section
variable {Q : D → Prop} {x : D} {l : List D}
theorem so_inL : So (inD x (.list l)) Q = ((flatD x && l.all flatD) = true ∧ Q (.bool (l.any fun y => eqF y x))) := by with_unfolding_all exact so_inL_0
theorem so_inT : So (inD x (.tuple l)) Q = ((flatD x && l.all flatD) = true ∧ Q (.bool (l.any fun y => eqF y x))) := by with_unfolding_all exact so_inT_0
theorem so_ninL : So (notInD x (.list l)) Q = ((flatD x && l.all flatD) = true ∧ Q (.bool (!l.any fun y => eqF y x))) := by with_unfolding_all exact so_ninL_0
theorem so_ninT : So (notInD x (.tuple l)) Q = ((flatD x && l.all flatD) = true ∧ Q (.bool (!l.any fun y => eqF y x))) := by with_unfolding_all exact so_ninT_0
end
end Z
set_option Elab.async false
set_option linter.all false
set_option maxRecDepth 100000
namespace Z
open PySem L2 PyProof.Rows
section
variable {prog : Program} {w : World} {A : Around} {E : Value → Shared → Prop} {s : Shared}
/-- max((a, b)) -/
theorem max_pair {p : Addr} {a b : Int} {t u : Tok} {Q : Value → Shared → Prop} (hh : A.handled = none) (hT : s.heap.IsTuple p #[.int a t, .int b u])
    (h : ∀ h' tk, (∀ c o, s.heap.get? c = some o → h'.get? c = some o) → Q (if b > a then .int b u else .int a t) { s with heap := h', toks := tk }) :
    wpAny (model prog w) A (call (.builtin "max") [.ref p]) Q E s := by
  have hT' : s.heap.IsTuple p (intItems #[(a, t), (b, u)]) := by
    have e : intItems #[(a, t), (b, u)] = #[.int a t, .int b u] := by simp [intItems]
    rw [e]; exact hT
  have hlt : p < s.heap.objs.size := by
    obtain ⟨o, e, _⟩ := hT
    exact Heap.lt_size e
  refine call_max_walk (wpAny_pyIter_tuple hT' ?_)
  refine ⟨_, [_, p], [_], _, _, _, _, rfl, Walks.tuple (A := A.in1) hh _ p (Nat.ne_of_lt hlt) (intItems #[(a, t), (b, u)]),
    ⟨⟨_, Heap.get?_push_size _ rfl, rfl, rfl⟩, hT'.push _⟩, fun c hc => ?_, by simp [intItems], CmpOf.ints_gt (numAt #[(a, t), (b, u)]) (fun _ _ => intItems_at), fun v h' tk hP hk => ?_⟩
  · show c < (s.heap.push _).objs.size
    rw [Heap.size_push]
    rcases List.mem_cons.mp hc with rfl | hc
    · exact Nat.lt_succ_self _
    · rcases List.mem_cons.mp hc with rfl | hc
      · exact Nat.lt_succ_of_lt hlt
      · cases hc
  · have hold : ∀ c o, s.heap.get? c = some o → h'.get? c = some o := fun c o e => by
      refine hk c o (fun hm => ?_) (Heap.get?_push_of_some _ e)
      rcases List.mem_cons.mp hm with e1 | hm
      · exact absurd (e1 ▸ Heap.lt_size e) (Nat.lt_irrefl _)
      · cases hm
    have q := h h' tk hold
    by_cases c : b > a
    · rw [if_pos c] at q
      have : v = .int b u := by
        simp [argBest, numAt, intItems, c] at hP
        exact hP.symm
      rw [this]; exact q
    · rw [if_neg c] at q
      have : v = .int a t := by
        simp [argBest, numAt, intItems, c] at hP
        exact hP.symm
      rw [this]; exact q
end
section
variable {X : Cx}
def rMaxT (K : Fg) : List V → Hp → VK → Prop := fun xs H Q => (∃ i j, xs = [.int i, .int j] ∧ Q (.int (if j > i then j else i)) H) ∨ ∃ p i j, xs = [.ref p] ∧ SqT K H p [.int i, .int j] ∧ Q (.int (if j > i then j else i)) H
theorem call_maxT (hc : X.calm = true) : CallR X (.builtin "max") (rMaxT X.K) := by
  intro pins s σ H xs us Q I r h
  rcases h with h | ⟨p, i, j, rfl, hs, q⟩
  · exact call_max2 hc pins s σ H xs us Q I r h
  · obtain ⟨its, rv, hT, _⟩ := I.tuple hs
    obtain ⟨t, u, rfl⟩ := Vals.int2 rv
    rw [Vals.ref1 r]
    refine max_pair (I.ok.hd hc) hT fun h' tk hk => ⟨.int (if j > i then j else i), H, I.kept hk, ?_, q⟩
    by_cases c : j > i
    · rw [if_pos c, if_pos c]; exact ⟨_, rfl⟩
    · rw [if_neg c, if_neg c]; exact ⟨_, rfl⟩
end
def maxT : List D → Option D
  | [.int i, .int j] => some (.int (if j > i then j else i))
  | [.tuple [.int i, .int j]] => some (.int (if j > i then j else i))
  | _ => none
theorem g_maxT {K : Fg} : CaG K (rMaxT K) maxT := fun F H xs es d sF va e Q q => by
  unfold maxT at e
  split at e
  · cases e
    cases va with
    | cons v1 r =>
      cases r with
      | cons v2 r =>
        cases r
        rw [v1.int, v2.int]
        exact .inl ⟨_, _, rfl, q F H _ .refl (.int _)⟩
  · cases e
    cases va with
    | cons v1 r =>
      cases r
      obtain ⟨p, xs, rfl, sq, al⟩ := v1.tup sF
      cases al with
      | cons d1 r =>
        cases r with
        | cons d2 r =>
          cases r
          cases d1
          cases d2
          exact .inr ⟨p, _, _, rfl, sq, q F H _ .refl (.int _)⟩
  · cases e
section
variable {i j : Int} {Q : D → Prop}
theorem so_maxI : So (maxT [.int i, .int j]) Q = Q (.int (if j > i then j else i)) := by with_unfolding_all exact nr rfl
theorem so_maxT : So (maxT [.tuple [.int i, .int j]]) Q = Q (.int (if j > i then j else i)) := by with_unfolding_all exact nr rfl
end
end Z
set_option Elab.async false
set_option linter.all false
set_option maxRecDepth 100000
namespace Z
open PySem L2
/-! ### list comprehensions -/
def wipeD (s : DS) : List Nat → DS
  | [] => s
  | v :: vs => (wipeD s vs).set v none
def back (s1 s2 : DS) : List Nat → DS
  | [] => s2
  | v :: vs => (back s1 s2 vs).set v (s1[v]?.getD none)
def lcl (g : MG) (t : M Bool) (e : M D) (vs : List Nat) : List D → DS → R (List D)
  | [], s => .ok [] s
  | x :: xs, s => match g x s with
    | none => .no
    | some s2 => match t s2 with
      | .no => .no
      | .ok false s3 => lcl g t e vs xs (wipeD s3 vs)
      | .ok true s3 => match e s3 with
        | .no => .no
        | .ok y s4 => match lcl g t e vs xs (wipeD s4 vs) with
          | .ok ys s5 => .ok (y :: ys) s5
          | .no => .no
def mLc (mi : M (List D)) (g : MG) (t : M Bool) (e : M D) (vs : List Nat) : M D := fun s => match mi s with
  | .no => .no
  | .ok xs s1 => match lcl g t e vs xs (wipeD s1 vs) with
    | .no => .no
    | .ok ys s2 => if fits ys.length then .ok (.list ys) (back s1 s2 vs) else .no
def mYes : M Bool := fun s => .ok true s
section
variable {K : Fg} {c : Ctx} {O : List Kd}
theorem wipe_get (σ : St) : ∀ (vs : List Nat) (i : Nat), i ∉ vs → (wipe σ vs)[i]? = σ[i]?
  | [], _, _ => rfl
  | v :: vs, i, h => by
    unfold wipe
    rw [List.getElem?_set_ne (fun z => h (by rw [z]; exact List.mem_cons_self))]
    exact wipe_get σ vs i fun z => h (List.mem_cons_of_mem _ z)
theorem wipeD_get (s : DS) : ∀ (vs : List Nat) (i : Nat), i ∉ vs → (wipeD s vs)[i]? = s[i]?
  | [], _, _ => rfl
  | v :: vs, i, h => by
    unfold wipeD
    rw [List.getElem?_set_ne (fun z => h (by rw [z]; exact List.mem_cons_self))]
    exact wipeD_get s vs i fun z => h (List.mem_cons_of_mem _ z)
theorem wipeD_len (s : DS) : ∀ vs : List Nat, (wipeD s vs).length = s.length
  | [] => rfl
  | v :: vs => by unfold wipeD; rw [List.length_set, wipeD_len s vs]
theorem wipeD_in (s : DS) : ∀ (vs : List Nat) (i : Nat) (d : D), (wipeD s vs)[i]? = some (some d) → i ∉ vs
  | [], i, d, _ => by simp
  | v :: vs, i, d, h => by
    unfold wipeD at h
    by_cases hi : v = i
    · subst hi
      by_cases hv : v < (wipeD s vs).length
      · rw [List.getElem?_set_self hv] at h; cases h
      · rw [List.getElem?_eq_none (by simpa using hv)] at h; cases h
    · rw [List.getElem?_set_ne hi] at h
      have := wipeD_in s vs i d h
      simp only [List.mem_cons, not_or]
      exact ⟨fun e => hi e.symm, this⟩
theorem back_get (s1 s2 : DS) : ∀ (vs : List Nat) (i : Nat), i ∉ vs → (back s1 s2 vs)[i]? = s2[i]?
  | [], _, _ => rfl
  | v :: vs, i, h => by
    unfold back
    rw [List.getElem?_set_ne (fun z => h (by rw [z]; exact List.mem_cons_self))]
    exact back_get s1 s2 vs i fun z => h (List.mem_cons_of_mem _ z)
theorem back_len (s1 s2 : DS) : ∀ vs : List Nat, (back s1 s2 vs).length = s2.length
  | [] => rfl
  | v :: vs => by unfold back; rw [List.length_set, back_len s1 s2 vs]
theorem back_in (s1 s2 : DS) : ∀ (vs : List Nat) (i : Nat) (d : D), i ∈ vs → (back s1 s2 vs)[i]? = some (some d) → s1[i]? = some (some d)
  | [], i, d, h, _ => absurd h (by simp)
  | v :: vs, i, d, h, e => by
    unfold back at e
    by_cases hi : v = i
    · subst hi
      by_cases hv : v < (back s1 s2 vs).length
      · rw [List.getElem?_set_self hv] at e
        cases z : s1[v]? with
        | none => rw [z] at e; cases e
        | some o => rw [z] at e; simpa using e
      · rw [List.getElem?_eq_none (by simpa using hv)] at e; cases e
    · rw [List.getElem?_set_ne hi] at e
      rcases List.mem_cons.mp h with z | z
      · exact absurd z.symm hi
      · exact back_in s1 s2 vs i d z e
theorem wipe_wipe (σ : St) (vs : List Nat) : wipe (wipe σ vs) vs = wipe σ vs := by
  apply List.ext_getElem?
  intro i
  by_cases h : i ∈ vs
  · have key : ∀ (τ : St) (ws : List Nat), i ∈ ws → (wipe τ ws)[i]? = if i < τ.length then some none else none := fun τ ws => by
      induction ws with
      | nil => intro h; exact absurd h (by simp)
      | cons w ws ih =>
        intro h
        unfold wipe
        by_cases z : w = i
        · subst z
          by_cases hl : w < τ.length
          · rw [List.getElem?_set_self (by rw [wipe_length]; exact hl), if_pos hl]
          · rw [List.getElem?_eq_none (by rw [List.length_set, wipe_length]; omega), if_neg hl]
        · rw [List.getElem?_set_ne z]
          rcases List.mem_cons.mp h with y | y
          · exact absurd y.symm z
          · exact ih y
    rw [key _ _ h, key _ _ h, wipe_length]
  · rw [wipe_get _ _ _ h]
theorem wipe_set (σ : St) (vs : List Nat) (i : Nat) (x : Option V) (h : i ∈ vs) : wipe (σ.set i x) vs = wipe σ vs := by
  induction vs with
  | nil => exact absurd h (by simp)
  | cons v vs ih =>
    unfold wipe
    by_cases z : i ∈ vs
    · rw [ih z]
    · have e : i = v := by
        rcases List.mem_cons.mp h with y | y
        · exact y
        · exact absurd y z
      subst e
      apply List.ext_getElem?
      intro j
      by_cases hj : i = j
      · subst hj
        by_cases hl : i < σ.length
        · rw [List.getElem?_set_self (by rw [wipe_length, List.length_set]; exact hl), List.getElem?_set_self (by rw [wipe_length]; exact hl)]
        · rw [List.getElem?_eq_none (by rw [List.length_set, wipe_length, List.length_set]; omega), List.getElem?_eq_none (by rw [List.length_set, wipe_length]; omega)]
      · rw [List.getElem?_set_ne hj, List.getElem?_set_ne hj]
        by_cases y : j ∈ vs
        · have key : ∀ (τ : St) (ws : List Nat), j ∈ ws → (wipe τ ws)[j]? = if j < τ.length then some none else none := fun τ ws => by
            induction ws with
            | nil => intro h; exact absurd h (by simp)
            | cons w ws ih =>
              intro h
              unfold wipe
              by_cases z : w = j
              · subst z
                by_cases hl : w < τ.length
                · rw [List.getElem?_set_self (by rw [wipe_length]; exact hl), if_pos hl]
                · rw [List.getElem?_eq_none (by rw [List.length_set, wipe_length]; omega), if_neg hl]
              · rw [List.getElem?_set_ne z]
                rcases List.mem_cons.mp h with y | y
                · exact absurd y.symm z
                · exact ih y
          rw [key _ _ y, key _ _ y, List.length_set]
        · rw [wipe_get _ _ _ y, wipe_get _ _ _ y, List.getElem?_set_ne hj]
/-- a target of the comprehension's own names -/
structure DV (K : Fg) (c : Ctx) (O : List Kd) (vs : List Nat) (g : TG) (mg : MG) : Prop where
  run : ∀ {F H : Hp} {σ : St} {fps : Nat → List Addr} {ds ds' : DS} {v : V} {d : D}, Rel K c O F H σ fps ds → Dp K F v d → mg d ds = some ds' → ∀ Q : St → Hp → Prop,
    (∀ σ' fps', Rel K c O F H σ' fps' ds' → wipe σ' vs = wipe σ vs → Q σ' H) → g v σ H Q
structure DVs (K : Fg) (c : Ctx) (O : List Kd) (vs : List Nat) (g : TGs) (mg : List D → DS → Option DS) : Prop where
  run : ∀ {F H : Hp} {σ : St} {fps : Nat → List Addr} {ds ds' : DS} {us : List V} {es : List D}, Rel K c O F H σ fps ds → DpAll K F us es → mg es ds = some ds' → ∀ Q : St → Hp → Prop,
    (∀ σ' fps', Rel K c O F H σ' fps' ds' → wipe σ' vs = wipe σ vs → Q σ' H) → g us σ H Q
variable {vs : List Nat}
theorem v_name (i : Nat) (hi : O[i]? = some .sh := by rfl) (hv : i ∈ vs := by decide) : DV K c O vs (gName i) (gN i) := ⟨fun {F H σ fps ds ds' v d} r dp e Q q => by
  cases e
  have hl : i < O.length := (List.getElem?_eq_some_iff.mp hi).1
  have r' := r.put hl (by rw [hi]; rfl) (k := .sh) (v := v) (d := d) (fpv := []) ⟨rfl, dp⟩ (fun q hq => absurd hq (by simp)) (by simp)
  have eO : O.set i .sh = O := by
    apply List.ext_getElem?
    intro j
    by_cases z : j = i
    · subst z; rw [List.getElem?_set_self hl, hi]
    · rw [List.getElem?_set_ne (Ne.symm z)]
  rw [eO] at r'
  exact q _ _ r' (wipe_set _ _ _ _ hv)⟩
theorem vs_nil : DVs K c O vs gNil gE := ⟨fun {F H σ fps ds ds' us es} r al e Q q => by
  cases al with
  | nil => cases e; exact ⟨rfl, q _ _ r rfl⟩
  | cons _ _ => cases e⟩
theorem vs_cons {g : TG} {gs : TGs} {a : MG} {b : List D → DS → Option DS} (h1 : DV K c O vs g a) (h2 : DVs K c O vs gs b) : DVs K c O vs (gCons g gs) (gC a b) := ⟨fun {F H σ fps ds ds' us es} r al e Q q => by
  cases al with
  | nil => cases e
  | cons dp al =>
    unfold gC at e
    dsimp only at e
    split at e
    · rename_i s' hs
      exact ⟨_, _, rfl, h1.run r dp hs _ fun σ1 fps1 r1 e1 => h2.run r1 al e Q fun σ2 fps2 r2 e2 => q σ2 fps2 r2 (e2.trans e1)⟩
    · cases e⟩
theorem v_tup {n : Nat} {gs : TGs} {b : List D → DS → Option DS} (h : DVs K c O vs gs b) : DV K c O vs (gTup K n gs) (gT n b) := ⟨fun {F H σ fps ds ds' v d} r dp e Q q => by
  unfold gT at e
  split at e
  · split at e
    · rename_i hn
      cases dp with
      | tup hq al => exact ⟨_, _, rfl, sqT_mono r.sub hq, by rw [dpa_len al]; exact hn, h.run r al e Q q⟩
    · cases e
  · cases e⟩
theorem d_yes : DT K c O tYes mYes := ⟨fun r e Q q => by
  cases e
  exact q _ _ _ (Same.refl _) r⟩
/-- an expression read as a thing of no one's -/
theorem DE.o {te : TE} {m : M D} (h : DE K c O te m) : DO K c O .sh te m := ⟨fun {F H σ fps ds ds' d} r e Q q => h.run r e Q fun F1 H1 fps1 v s r1 dp => q F1 H1 fps1 v [] s r1 ⟨rfl, dp⟩ (fun q hq => absurd hq (by simp)) (by simp)⟩
section
variable {F1 H1 F2 H2 : Hp} {σ1 σ2 : St} {fps1 fps2 : Nat → List Addr} {ds1 ds2 : DS}
/-- what is no one's stays through a part that is seen from here on -/
theorem Rel.out (r2 : Rel K (c.from O F1 H1 fps1) O F2 H2 σ2 fps2 ds2) {q : Addr} (h1 : F1 q = none) (h2 : H1 q ≠ none) (h4 : ∀ i, q ∉ fps1 i) : H2 q = H1 q ∧ F2 q = none ∧ ∀ i, q ∉ fps2 i := by
  have hH : (c.from O F1 H1 fps1).H0 q = H1 q := from_some fun ⟨i, hi, _⟩ => h4 i hi
  refine ⟨?_, ?_, fun i hi => ?_⟩
  · cases z : H1 q with
    | none => exact absurd z h2
    | some o => exact r2.keep q o (by rw [hH]; exact z) fun ⟨i, hi, _⟩ => h4 i hi
  · cases z : F2 q with
    | none => rfl
    | some o =>
      rcases r2.new q o z with h | h
      · have h' : F1 q = some o := h
        rw [h1] at h'; cases h'
      · rw [hH] at h; exact absurd h h2
  · rcases (r2.off i q hi).2.2 with h | ⟨⟨j, hj, _⟩, _⟩
    · rw [hH] at h; exact h2 h
    · exact h4 j hj
theorem Rel.unfocus' (r : Rel K c O F1 H1 σ1 fps1 ds1) (r2 : Rel K (c.from O F1 H1 fps1) O F2 H2 σ2 fps2 ds2) : Rel K c O F2 H2 σ2 fps2 ds2 := by
  have hn : ∀ b, (c.from O F1 H1 fps1).H0 b = none → c.H0 b = none := fun b h => by
    rcases from_none h with ⟨i, hi, hp⟩ | h
    · rcases (r.off i b hi).2.2 with h | ⟨_, h⟩
      · exact h
      · rw [hp] at h; cases h
    · exact r.live b h
  refine ⟨r2.sub, r.base.trans r2.base, fun b o e n => ?_, fun b e => hn b (r2.live b e), fun b o e => ?_, r2.slots, fun i q hq => ?_, r2.nd, r2.dj, r2.par, r2.len⟩
  · have hb : ∀ i, b ∉ fps1 i := fun i hi => by
      rcases (r.off i b hi).2.2 with h | ⟨h, _⟩
      · rw [h] at e; cases e
      · exact n h
    refine r2.keep b o ?_ (fun ⟨i, hi, _⟩ => hb i hi)
    rw [from_some (fun ⟨i, hi, _⟩ => hb i hi)]
    exact r.keep b o e n
  · rcases r2.new b o e with h | h
    · exact r.new b o h
    · exact .inr (hn b h)
  · obtain ⟨h1, h2, h3⟩ := r2.off i q hq
    refine ⟨h1, h2, ?_⟩
    rcases h3 with h3 | ⟨⟨j, hj, _⟩, h3⟩
    · exact .inl (hn q h3)
    · rcases (r.off j q hj).2.2 with h | ⟨h, _⟩
      · exact .inl h
      · exact .inr ⟨h, h3⟩
/-- a thing of no one's is written -/
theorem Rel.updO (r : Rel K c O F1 H1 σ1 fps1 ds1) {p : Addr} (hF : F1 p = none) (h0 : c.H0 p = none) (hq : ∀ i, p ∉ fps1 i) (o : HO) : Rel K c O F1 (upd H1 p o) σ1 fps1 ds1 := by
  refine ⟨fun b u e => ?_, r.base, fun b u e n => ?_, fun b e => ?_, r.new, fun i d e => ?_, fun i q hqi => ?_, r.nd, r.dj, r.par, r.len⟩
  · rw [upd_ne (ne_of_none e hF)]; exact r.sub b u e
  · have hb : b ≠ p := fun z => by subst z; rw [h0] at e; cases e
    rw [upd_ne hb]; exact r.keep b u e n
  · by_cases hb : b = p
    · subst hb; rw [upd_same] at e; cases e
    · rw [upd_ne hb] at e; exact r.live b e
  · obtain ⟨v, hv, ho⟩ := r.slots i d e
    exact ⟨v, hv, ow_mono (Same.refl _) ho fun q hq' => upd_ne fun z => by subst z; exact hq i hq'⟩
  · obtain ⟨a, b, cc⟩ := r.off i q hqi
    have hb : q ≠ p := fun z => by subst z; exact hq i hqi
    rw [upd_ne hb]; exact ⟨a, b, cc⟩
/-- the comprehension's own names forgotten -/
theorem Rel.wiped (r : Rel K c O F1 H1 σ1 fps1 ds1) (hv : ∀ v ∈ vs, O[v]? = some .sh) : Rel K c O F1 H1 (wipe σ1 vs) fps1 (wipeD ds1 vs) := by
  refine ⟨r.sub, r.base, r.keep, r.live, r.new, fun i d e => ?_, r.off, r.nd, r.dj, fun i k h => ?_, by rw [wipe_length, wipeD_len]; exact r.len⟩
  · have hi := wipeD_in _ _ _ _ e
    rw [wipeD_get _ _ _ hi] at e
    rw [wipe_get _ _ _ hi]
    exact r.slots i d e
  · obtain ⟨a, b⟩ := r.par i k h
    refine ⟨a, ?_⟩
    rw [wipe_get _ _ _ fun hi => by rw [hv i hi] at a; cases a]
    exact b
/-- .. and known again -/
theorem Rel.backed (r1 : Rel K c O F1 H1 σ1 fps1 ds1) (r2 : Rel K c O F2 H2 σ2 fps2 ds2) (e : wipe σ2 vs = wipe σ1 vs) (s : Same F1 F2) (hv : ∀ v ∈ vs, O[v]? = some .sh) : Rel K c O F2 H2 σ1 (fun j => if j ∈ vs then [] else fps2 j) (back ds1 ds2 vs) := by
  have eg : ∀ i, i ∉ vs → σ2[i]? = σ1[i]? := fun i h => by rw [← wipe_get σ2 vs i h, e, wipe_get σ1 vs i h]
  have sub : ∀ i q, q ∈ (if i ∈ vs then [] else fps2 i) → q ∈ fps2 i := fun i q h => by
    by_cases z : i ∈ vs
    · rw [if_pos z] at h; exact absurd h (by simp)
    · rw [if_neg z] at h; exact h
  refine ⟨r2.sub, r2.base, r2.keep, r2.live, r2.new, fun i d ed => ?_, fun i q hq => r2.off i q (sub i q hq), fun i => ?_, fun i j hij q hq hq' => r2.dj i j hij q (sub i q hq) (sub j q hq'), fun i k h => ?_, ?_⟩
  · by_cases z : i ∈ vs
    · have e1 := back_in _ _ _ _ _ z ed
      obtain ⟨v, hv', ow⟩ := r1.slots i d e1
      refine ⟨v, hv', ?_⟩
      have hk : O.getD i .sh = .sh := by rw [List.getD_eq_getElem?_getD, hv i z]; rfl
      rw [hk] at ow ⊢
      simp only [if_pos z]
      exact ⟨rfl, dp_mono s ow.2⟩
    · rw [back_get _ _ _ _ z] at ed
      obtain ⟨v, hv', ow⟩ := r2.slots i d ed
      rw [eg i z] at hv'
      refine ⟨v, hv', ?_⟩
      simp only [if_neg z]
      exact ow
  · by_cases z : i ∈ vs
    · simp only [if_pos z]; simp
    · simp only [if_neg z]; exact r2.nd i
  · exact r1.par i k h
  · rw [back_len, ← r2.len, ← wipe_length σ1 vs, ← wipe_length σ2 vs, e]
end
/-- the list that a comprehension makes, so far -/
structure Acc (K : Fg) (c : Ctx) (k : Kd) (F H : Hp) (fps : Nat → List Addr) (p : Addr) (acc : List V) (ys : List D) (fs : List (List Addr)) : Prop where
  at_ : H p = some (.lst acc)
  off : ∀ q ∈ p :: fs.flatten, F q = none ∧ H q ≠ none ∧ c.H0 q = none ∧ ∀ i, q ∉ fps i
  al : All3 (Ow K F H k) acc ys fs
  nd : (p :: fs.flatten).Nodup
theorem All3.snoc {α β γ : Type} {P : α → β → γ → Prop} {a : α} {b : β} {d : γ} (h : P a b d) : ∀ {xs ys zs}, All3 P xs ys zs → All3 P (xs ++ [a]) (ys ++ [b]) (zs ++ [d])
  | _, _, _, .nil => .cons h .nil
  | _, _, _, .cons p t => .cons p (t.snoc h)
theorem Acc.step {k : Kd} {F1 H1 F2 H2 : Hp} {σ2 : St} {fps1 fps2 : Nat → List Addr} {ds2 : DS} {p : Addr} {acc : List V} {ys : List D} {fs : List (List Addr)} (a : Acc K c k F1 H1 fps1 p acc ys fs)
    (s : Same F1 F2) (r2 : Rel K (c.from O F1 H1 fps1) O F2 H2 σ2 fps2 ds2) : Acc K c k F2 H2 fps2 p acc ys fs := by
  have o := fun q hq => r2.out (a.off q hq).1 (a.off q hq).2.1 (a.off q hq).2.2.2
  refine ⟨by rw [(o p List.mem_cons_self).1]; exact a.at_, fun q hq => ⟨(o q hq).2.1, by rw [(o q hq).1]; exact (a.off q hq).2.1, (a.off q hq).2.2.1, (o q hq).2.2⟩, ?_, a.nd⟩
  exact a.al.imp fun x y z hz ow => ow_mono s ow fun q hq => (o q (List.mem_cons_of_mem _ (List.mem_flatten.mpr ⟨z, hz, hq⟩))).1
theorem o_lc {k : Kd} {wi : TI} {mi : M (List D)} {g : TG} {mg : MG} {tt : TT} {mt : M Bool} {te : TE} {me : M D} (hi : DI K c O wi mi) (hg : ∀ c' : Ctx, DV K c' O vs g mg) (ht : ∀ c' : Ctx, DT K c' O tt mt) (he : ∀ c' : Ctx, DO K c' O k te me)
    (hv : ∀ v ∈ vs, O[v]? = some .sh) : DO K c O (.ls k) (tLc wi g tt te vs) (mLc mi mg mt me vs) := ⟨fun {F H σ fps ds ds' d} r e Q q => by
  unfold mLc at e
  cases e1 : mi ds with
  | no => rw [e1] at e; cases e
  | ok xs s1 =>
    rw [e1] at e
    dsimp only at e
    cases e2 : lcl mg mt me vs xs (wipeD s1 vs) with
    | no => rw [e2] at e; cases e
    | ok ys s2 =>
      rw [e2] at e
      dsimp only at e
      split at e
      · rename_i hf
        cases e
        have hfit := fits_of hf
        refine hi.run r e1 _ fun F1 H1 fps1 J sF r1 wk => ?_
        intro p hp
        obtain ⟨pF, p0, pq⟩ := r1.fresh hp
        have r1' := (r1.allocO hp (.lst [])).wiped hv
        refine ⟨fun i m Hc => m + i = xs.length ∧ ∃ Fc fpc dc acc yc fs rest, Same F1 Fc ∧ Rel K c O Fc Hc (wipe σ vs) fpc dc ∧ Acc K c k Fc Hc fpc p acc yc fs ∧ lcl mg mt me vs (xs.drop i) dc = .ok rest s2 ∧ yc ++ rest = ys,
          ⟨xs.length, by omega, F1, fps1, _, [], [], [], ys, Same.refl _, r1', ⟨upd_same, fun q hq => ?_, .nil, by simp⟩, by rw [List.drop_zero]; exact e2, by simp⟩, ?_⟩
        · have : q = p := by simpa using hq
          subst this
          exact ⟨pF, by rw [upd_same]; simp, p0, pq⟩
        rintro i m Hc ⟨hm, Fc, fpc, dc, acc, yc, fs, rest, sc, rc, ac, el, ey⟩
        obtain ⟨w1, w2⟩ := wk Fc Hc i sc rc.sub
        cases hx : xs[i]? with
        | none =>
          have hl : xs.length ≤ i := List.getElem?_eq_none_iff.mp hx
          refine .inl ⟨w2 (by omega), ?_⟩
          rw [List.drop_of_length_le hl] at el
          unfold lcl at el
          cases el
          rw [List.append_nil] at ey
          subst ey
          refine q Fc Hc _ (.ref p) (p :: fs.flatten) (sF.trans sc) (r1.backed rc (wipe_wipe _ _) sc hv) ⟨p, acc, yc, fs, rfl, rfl, ac.at_, rfl, ac.al⟩ (fun q' hq' => ?_) ac.nd
          obtain ⟨a1, a2, a3, a4⟩ := ac.off q' hq'
          refine ⟨a1, a2, a3, fun j => ?_⟩
          by_cases z : j ∈ vs
          · simp only [if_pos z]; simp
          · simp only [if_neg z]; exact a4 j
        | some d0 =>
          obtain ⟨go, yl⟩ := w1 d0 hx
          have hlt : i < xs.length := (List.getElem?_eq_some_iff.mp hx).1
          have hd : xs.drop i = d0 :: xs.drop (i + 1) := by
            rw [List.drop_eq_getElem_cons hlt]
            congr 1
            rw [List.getElem?_eq_getElem hlt] at hx
            exact Option.some.inj hx
          rw [hd] at el
          unfold lcl at el
          refine .inr ⟨go, fun Hn => ∃ Fc fpc dc acc yc fs rest, Same F1 Fc ∧ Rel K c O Fc Hn (wipe σ vs) fpc dc ∧ Acc K c k Fc Hn fpc p acc yc fs ∧ lcl mg mt me vs (xs.drop (i + 1)) dc = .ok rest s2 ∧ yc ++ rest = ys, fun Hn h => ⟨m - 1, by omega, by omega, h⟩, fun x H3 hy => ?_⟩
          have rf := rc.focus
          obtain ⟨F3, gr, dp⟩ := yl x H3 hy
          obtain ⟨r3, s3⟩ := gr.rel rf
          split at el
          · cases el
          · rename_i s4 hs4
            refine (hg _).run r3 dp hs4 _ fun σ4 fps4 r4 e4 => ⟨by rw [e4, wipe_wipe], ?_⟩
            have e4' : wipe σ4 vs = wipe σ vs := by rw [e4, wipe_wipe]
            cases e5 : mt s4 with
            | no => rw [e5] at el; cases el
            | ok b s5 =>
              rw [e5] at el
              refine (ht _).run r4 e5 _ fun F5 H5 fps5 sF5 r5 => ?_
              cases b with
              | false =>
                refine iteF ?_
                have hs : Same Fc F5 := s3.trans sF5
                have r6 := (rc.unfocus' r5).wiped hv
                rw [e4'] at r6
                exact ⟨F5, fps5, _, acc, yc, fs, rest, sc.trans hs, r6, ac.step hs r5, el, ey⟩
              | true =>
                refine iteT ?_
                dsimp only at el
                cases e6 : me s5 with
                | no => rw [e6] at el; cases el
                | ok y s6 =>
                  rw [e6] at el
                  dsimp only at el
                  cases e7 : lcl mg mt me vs (xs.drop (i + 1)) (wipeD s6 vs) with
                  | no => rw [e7] at el; cases el
                  | ok rs s7 =>
                    rw [e7] at el
                    cases el
                    refine (he _).run r5 e6 _ fun F6 H6 fps6 u fpu sF6 r6 ow hfu ndu => ?_
                    have hs : Same Fc F6 := (s3.trans sF5).trans sF6
                    have a6 := ac.step hs r6
                    have r7 := rc.unfocus' r6
                    have hl : acc.length = yc.length := ac.al.len.1
                    refine ⟨acc, a6.at_, ?_, ?_⟩
                    · rw [hl]
                      have : yc.length + (y :: rs).length = ys.length := by rw [← ey, List.length_append]
                      rw [List.length_cons] at this
                      omega
                    · obtain ⟨pF6, pH6, p06, pq6⟩ := a6.off p List.mem_cons_self
                      have r8 := (r7.updO pF6 p06 pq6 (.lst (acc ++ [u]))).wiped hv
                      rw [e4'] at r8
                      have hpu : p ∉ fpu := fun z => by
                        have := (hfu p z).2.2.1
                        have hh : (c.from O Fc Hc fpc).H0 p = Hc p := from_some fun ⟨i, hi, _⟩ => (ac.off p List.mem_cons_self).2.2.2 i hi
                        rw [hh] at this
                        exact (ac.off p List.mem_cons_self).2.1 this
                      have hfr : ∀ q ∈ fs.flatten, q ∉ fpu := fun q hq z => by
                        have := (hfu q z).2.2.1
                        have hh : (c.from O Fc Hc fpc).H0 q = Hc q := from_some fun ⟨i, hi, _⟩ => (ac.off q (List.mem_cons_of_mem _ hq)).2.2.2 i hi
                        rw [hh] at this
                        exact (ac.off q (List.mem_cons_of_mem _ hq)).2.1 this
                      have hpf : p ∉ fs.flatten := (List.nodup_cons.mp ac.nd).1
                      refine ⟨F6, fps6, _, acc ++ [u], yc ++ [y], fs ++ [fpu], rs, sc.trans hs, r8, ⟨upd_same, fun q hq => ?_, ?_, ?_⟩, e7, by rw [List.append_assoc]; exact ey⟩
                      · rcases List.mem_cons.mp hq with z | hq
                        · subst z
                          exact ⟨pF6, by rw [upd_same]; simp, p06, pq6⟩
                        · rw [List.flatten_append, List.mem_append] at hq
                          rcases hq with hq | hq
                          · obtain ⟨b1, b2, b3, b4⟩ := a6.off q (List.mem_cons_of_mem _ hq)
                            have hne : q ≠ p := fun z => hpf (z ▸ hq)
                            exact ⟨b1, by rw [upd_ne hne]; exact b2, b3, b4⟩
                          · have hq : q ∈ fpu := by simpa using hq
                            obtain ⟨b1, b2, b3, b4⟩ := hfu q hq
                            have hne : q ≠ p := fun z => hpu (z ▸ hq)
                            refine ⟨b1, by rw [upd_ne hne]; exact b2, ?_, b4⟩
                            rcases from_none b3 with ⟨j, hj, hpm⟩ | h
                            · rcases (rc.off j q hj).2.2 with h | ⟨_, h⟩
                              · exact h
                              · rw [hpm] at h; cases h
                            · exact rc.live q h
                      · refine All3.snoc ?_ (a6.al.imp fun x1 y1 z1 hz1 ow1 => ow_mono (Same.refl _) ow1 fun q hq => upd_ne fun z => hpf (z ▸ List.mem_flatten.mpr ⟨z1, hz1, hq⟩))
                        exact ow_mono (Same.refl _) ow fun q hq => upd_ne fun z => hpu (z ▸ hq)
                      · rw [List.flatten_append]
                        have e9 : [fpu].flatten = fpu := by simp
                        rw [e9]
                        refine List.nodup_cons.mpr ⟨fun z => ?_, ?_⟩
                        · rcases List.mem_append.mp z with z | z
                          · exact hpf z
                          · exact hpu z
                        · exact List.nodup_append.mpr ⟨(List.nodup_cons.mp ac.nd).2, ndu, fun a ha b hb z => hfr a ha (z ▸ hb)⟩
      · cases e⟩
end
end Z
set_option Elab.async false
set_option linter.all false
set_option maxRecDepth 100000
namespace Z
open PySem L2
/-! ### comprehensions over a list of one's own, that stays so -/
def lclS (j : Nat) (g : MG) (t : M Bool) (e : M D) (vs : List Nat) : Nat → Nat → DS → R (List D)
  | 0, i, s => match s[j]? with
    | some (some (.list ys)) => if ys.length ≤ i then .ok [] s else .no
    | _ => .no
  | n + 1, i, s => match s[j]? with
    | some (some (.list ys)) => match ys[i]? with
      | none => .no
      | some x => match g x s with
        | none => .no
        | some s2 => match t s2 with
          | .no => .no
          | .ok false s3 => lclS j g t e vs n (i + 1) (wipeD s3 vs)
          | .ok true s3 => match e s3 with
            | .no => .no
            | .ok y s4 => match lclS j g t e vs n (i + 1) (wipeD s4 vs) with
              | .ok ys s5 => .ok (y :: ys) s5
              | .no => .no
    | _ => .no
def mLcS (j : Nat) (g : MG) (t : M Bool) (e : M D) (vs : List Nat) : M D := fun s => match s[j]? with
  | some (some (.list zs)) => match lclS j g t e vs zs.length 0 (wipeD s vs) with
    | .no => .no
    | .ok ys s2 => if fits ys.length then .ok (.list ys) (back s s2 vs) else .no
  | _ => .no
section
variable {K : Fg} {c : Ctx} {O : List Kd} {vs : List Nat}
theorem own_at {F H : Hp} {σ : St} {fps : Nat → List Addr} {ds : DS} {j : Nat} {ys : List D} (r : Rel K c O F H σ fps ds) (hk : lsish (O.getD j .sh) = true) (h : ds[j]? = some (some (.list ys))) :
    ∃ p xs, σ[j]? = some (some (.ref p)) ∧ H p = some (.lst xs) ∧ DpAll K F xs ys := by
  obtain ⟨v, hv, ow⟩ := r.slots j _ h
  obtain ⟨p, xs, ds', rfl, e, hp, _, al⟩ := ow_ls hk ow
  cases e
  exact ⟨p, xs, hv, hp, al⟩
theorem o_lcS {k : Kd} (j : Nat) {g : TG} {mg : MG} {tt : TT} {mt : M Bool} {te : TE} {me : M D} (hg : ∀ c' : Ctx, DV K c' O vs g mg) (ht : ∀ c' : Ctx, DT K c' O tt mt) (he : ∀ c' : Ctx, DO K c' O k te me)
    (hv : ∀ v ∈ vs, O[v]? = some .sh) (hj : j ∉ vs := by decide) (hk : lsish (O.getD j .sh) = true := by rfl) : DO K c O (.ls k) (tLc (iSeq K (tVar j)) g tt te vs) (mLcS j mg mt me vs) := ⟨fun {F H σ fps ds ds' d} r e Q q => by
  unfold mLcS at e
  split at e
  · rename_i zs hz
    cases e2 : lclS j mg mt me vs zs.length 0 (wipeD ds vs) with
    | no => rw [e2] at e; cases e
    | ok ys s2 =>
      rw [e2] at e
      dsimp only at e
      split at e
      · rename_i hf
        cases e
        have hfit := fits_of hf
        obtain ⟨a, xs0, ha, hp0, _⟩ := own_at r hk hz
        refine .inl ⟨_, ha, a, rfl, ⟨xs0, SqL.of hp0⟩, fun p hp => ?_⟩
        obtain ⟨pF, p0, pq⟩ := r.fresh hp
        have r1' := (r.allocO hp (.lst [])).wiped hv
        have wj : ∀ τ : St, wipe τ vs = wipe σ vs → τ[j]? = some (some (.ref a)) := fun τ h => by rw [← wipe_get τ vs j hj, h, wipe_get σ vs j hj]; exact ha
        refine ⟨fun i m Hc => ∃ Fc fpc dc acc yc fs rest, Same F Fc ∧ Rel K c O Fc Hc (wipe σ vs) fpc dc ∧ Acc K c k Fc Hc fpc p acc yc fs ∧ lclS j mg mt me vs m i dc = .ok rest s2 ∧ yc ++ rest = ys,
          ⟨zs.length, F, fps, _, [], [], [], ys, Same.refl _, r1', ⟨upd_same, fun q hq => ?_, .nil, by simp⟩, e2, by simp⟩, ?_⟩
        · have : q = p := by simpa using hq
          subst this
          exact ⟨pF, by rw [upd_same]; simp, p0, pq⟩
        rintro i m Hc ⟨Fc, fpc, dc, acc, yc, fs, rest, sc, rc, ac, el, ey⟩
        cases m with
        | zero =>
          unfold lclS at el
          split at el
          · rename_i ws hw
            split at el
            · rename_i hle
              cases el
              obtain ⟨a', xs', ha', hpa, al⟩ := own_at rc hk hw
              rw [wj _ (wipe_wipe _ _)] at ha'
              cases ha'
              refine .inl ⟨⟨xs', SqL.of hpa, by rw [dpa_len al]; exact hle⟩, ?_⟩
              rw [List.append_nil] at ey
              subst ey
              refine q Fc Hc _ (.ref p) (p :: fs.flatten) sc (r.backed rc (wipe_wipe _ _) sc hv) ⟨p, acc, yc, fs, rfl, rfl, ac.at_, rfl, ac.al⟩ (fun q' hq' => ?_) ac.nd
              obtain ⟨a1, a2, a3, a4⟩ := ac.off q' hq'
              refine ⟨a1, a2, a3, fun j => ?_⟩
              by_cases z : j ∈ vs
              · simp only [if_pos z]; simp
              · simp only [if_neg z]; exact a4 j
            · cases el
          · cases el
        | succ n =>
          unfold lclS at el
          split at el
          · rename_i ws hw
            split at el
            · cases el
            · rename_i d0 hx
              obtain ⟨a', xs', ha', hpa, al⟩ := own_at rc hk hw
              rw [wj _ (wipe_wipe _ _)] at ha'
              cases ha'
              obtain ⟨v0, hv0, dp0⟩ := dpa_get al hx
              refine .inr ⟨⟨xs', v0, SqL.of hpa, hv0⟩, fun Hn => ∃ Fc fpc dc acc yc fs rest, Same F Fc ∧ Rel K c O Fc Hn (wipe σ vs) fpc dc ∧ Acc K c k Fc Hn fpc p acc yc fs ∧ lclS j mg mt me vs n (i + 1) dc = .ok rest s2 ∧ yc ++ rest = ys, fun Hn h => ⟨n, by omega, h⟩, fun x H3 hy => ?_⟩
              obtain ⟨e3, hy⟩ := hy
              subst e3
              have hxv := hy xs' (SqL.of hpa)
              rw [hv0] at hxv
              cases hxv
              have rf := rc.focus
              split at el
              · cases el
              · rename_i s4 hs4
                refine (hg _).run rf dp0 hs4 _ fun σ4 fps4 r4 e4 => ⟨by rw [e4, wipe_wipe], ?_⟩
                have e4' : wipe σ4 vs = wipe σ vs := by rw [e4, wipe_wipe]
                cases e5 : mt s4 with
                | no => rw [e5] at el; cases el
                | ok b s5 =>
                  rw [e5] at el
                  refine (ht _).run r4 e5 _ fun F5 H5 fps5 sF5 r5 => ?_
                  cases b with
                  | false =>
                    refine iteF ?_
                    have r6 := (rc.unfocus' r5).wiped hv
                    rw [e4'] at r6
                    exact ⟨F5, fps5, _, acc, yc, fs, rest, sc.trans sF5, r6, ac.step sF5 r5, el, ey⟩
                  | true =>
                    refine iteT ?_
                    dsimp only at el
                    cases e6 : me s5 with
                    | no => rw [e6] at el; cases el
                    | ok y s6 =>
                      rw [e6] at el
                      dsimp only at el
                      cases e7 : lclS j mg mt me vs n (i + 1) (wipeD s6 vs) with
                      | no => rw [e7] at el; cases el
                      | ok rs s7 =>
                        rw [e7] at el
                        cases el
                        refine (he _).run r5 e6 _ fun F6 H6 fps6 u fpu sF6 r6 ow hfu ndu => ?_
                        have hs : Same Fc F6 := sF5.trans sF6
                        have a6 := ac.step hs r6
                        have r7 := rc.unfocus' r6
                        have hl : acc.length = yc.length := ac.al.len.1
                        refine ⟨acc, a6.at_, ?_, ?_⟩
                        · rw [hl]
                          have : yc.length + (y :: rs).length = ys.length := by rw [← ey, List.length_append]
                          rw [List.length_cons] at this
                          omega
                        · obtain ⟨pF6, pH6, p06, pq6⟩ := a6.off p List.mem_cons_self
                          have r8 := (r7.updO pF6 p06 pq6 (.lst (acc ++ [u]))).wiped hv
                          rw [e4'] at r8
                          have hpu : p ∉ fpu := fun z => by
                            have := (hfu p z).2.2.1
                            have hh : (c.from O Fc H3 fpc).H0 p = H3 p := from_some fun ⟨i, hi, _⟩ => (ac.off p List.mem_cons_self).2.2.2 i hi
                            rw [hh] at this
                            exact (ac.off p List.mem_cons_self).2.1 this
                          have hfr : ∀ q ∈ fs.flatten, q ∉ fpu := fun q hq z => by
                            have := (hfu q z).2.2.1
                            have hh : (c.from O Fc H3 fpc).H0 q = H3 q := from_some fun ⟨i, hi, _⟩ => (ac.off q (List.mem_cons_of_mem _ hq)).2.2.2 i hi
                            rw [hh] at this
                            exact (ac.off q (List.mem_cons_of_mem _ hq)).2.1 this
                          have hpf : p ∉ fs.flatten := (List.nodup_cons.mp ac.nd).1
                          refine ⟨F6, fps6, _, acc ++ [u], yc ++ [y], fs ++ [fpu], rs, sc.trans hs, r8, ⟨upd_same, fun q hq => ?_, ?_, ?_⟩, e7, by rw [List.append_assoc]; exact ey⟩
                          · rcases List.mem_cons.mp hq with z | hq
                            · subst z
                              exact ⟨pF6, by rw [upd_same]; simp, p06, pq6⟩
                            · rw [List.flatten_append, List.mem_append] at hq
                              rcases hq with hq | hq
                              · obtain ⟨b1, b2, b3, b4⟩ := a6.off q (List.mem_cons_of_mem _ hq)
                                have hne : q ≠ p := fun z => hpf (z ▸ hq)
                                exact ⟨b1, by rw [upd_ne hne]; exact b2, b3, b4⟩
                              · have hq : q ∈ fpu := by simpa using hq
                                obtain ⟨b1, b2, b3, b4⟩ := hfu q hq
                                have hne : q ≠ p := fun z => hpu (z ▸ hq)
                                refine ⟨b1, by rw [upd_ne hne]; exact b2, ?_, b4⟩
                                rcases from_none b3 with ⟨j, hj, hpm⟩ | h
                                · rcases (rc.off j q hj).2.2 with h | ⟨_, h⟩
                                  · exact h
                                  · rw [hpm] at h; cases h
                                · exact rc.live q h
                          · refine All3.snoc ?_ (a6.al.imp fun x1 y1 z1 hz1 ow1 => ow_mono (Same.refl _) ow1 fun q hq => upd_ne fun z => hpf (z ▸ List.mem_flatten.mpr ⟨z1, hz1, hq⟩))
                            exact ow_mono (Same.refl _) ow fun q hq => upd_ne fun z => hpu (z ▸ hq)
                          · rw [List.flatten_append]
                            have e9 : [fpu].flatten = fpu := by simp
                            rw [e9]
                            refine List.nodup_cons.mpr ⟨fun z => ?_, ?_⟩
                            · rcases List.mem_append.mp z with z | z
                              · exact hpf z
                              · exact hpu z
                            · exact List.nodup_append.mpr ⟨(List.nodup_cons.mp ac.nd).2, ndu, fun a ha b hb z => hfr a ha (z ▸ hb)⟩
          · cases el
      · cases e
  · cases e⟩
end
/-! ### run -/
def Lc0 (g : MG) (t : M Bool) (e : M D) (vs : List Nat) (xs : List D) (s : DS) (Q : List D → DS → Prop) : Prop := match lcl g t e vs xs s with
  | .ok ys s' => Q ys s'
  | .no => False
@[irreducible] def Lc (xs : List D) (s : DS) (g : MG) (t : M Bool) (e : M D) (vs : List Nat) (Q : List D → DS → Prop) (_ : W5 g t e vs Q := Unit.unit) : Prop := Lc0 g t e vs xs s Q
theorem ev_lc_0 {mi : M (List D)} {g : MG} {t : M Bool} {e : M D} {vs : List Nat} {s : DS} {Q : D → DS → Prop} : Ev0 (mLc mi g t e vs) s Q = Ev0 mi s fun xs s1 => Lc0 g t e vs xs (wipeD s1 vs) fun ys s2 => fits ys.length = true ∧ Q (.list ys) (back s1 s2 vs) := by
  unfold Ev0 mLc Lc0
  cases mi s with
  | no => rfl
  | ok xs s1 =>
    dsimp only
    cases lcl g t e vs xs (wipeD s1 vs) with
    | no => rfl
    | ok ys s2 =>
      dsimp only
      cases fits ys.length <;> simp
theorem ev_lc {mi : M (List D)} {g : MG} {t : M Bool} {e : M D} {vs : List Nat} {s : DS} {Q : D → DS → Prop} : Ev (mLc mi g t e vs) s Q = Ev mi s fun xs s1 => Lc xs (wipeD s1 vs) g t e vs fun ys s2 => fits ys.length = true ∧ Q (.list ys) (back s1 s2 vs) := by with_unfolding_all exact ev_lc_0
theorem ev_yes {s : DS} {Q : Bool → DS → Prop} : Ev mYes s Q = Q true s := by with_unfolding_all exact nr rfl
theorem lc_by {xs : List D} {s : DS} {g : MG} {t : M Bool} {e : M D} {vs : List Nat} {Q : List D → DS → Prop} (I : Nat → List D → DS → Prop) (h0 : I 0 [] s)
    (ht : ∀ i d ys s1, xs[i]? = some d → I i ys s1 → So (g d s1) fun s2 => Ev t s2 fun b s3 => Br b (Ev e s3 fun y s4 => I (i + 1) (ys ++ [y]) (wipeD s4 vs)) (I (i + 1) ys (wipeD s3 vs))) (he : ∀ ys s1, I xs.length ys s1 → Q ys s1) : Lc xs s g t e vs Q := by
  have key : ∀ (n i : Nat) (ys : List D) (s1 : DS), n + i = xs.length → I i ys s1 → Lc0 g t e vs (xs.drop i) s1 fun zs s2 => Q (ys ++ zs) s2 := fun n => by
    induction n with
    | zero =>
      intro i ys s1 hn hI
      have : i = xs.length := by omega
      subst this
      rw [List.drop_of_length_le (Nat.le_refl _)]
      unfold Lc0 lcl
      dsimp only
      rw [List.append_nil]
      exact he ys s1 hI
    | succ n ih =>
      intro i ys s1 hn hI
      have hlt : i < xs.length := by omega
      rw [List.drop_eq_getElem_cons hlt]
      have h := ht i xs[i] ys s1 (List.getElem?_eq_getElem hlt) hI
      have h : So0 (g xs[i] s1) fun s2 => Ev0 t s2 fun b s3 => Br0 b (Ev0 e s3 fun y s4 => I (i + 1) (ys ++ [y]) (wipeD s4 vs)) (I (i + 1) ys (wipeD s3 vs)) := by with_unfolding_all exact h
      unfold Lc0 lcl
      unfold So0 at h
      cases eg : g xs[i] s1 with
      | none => rw [eg] at h; exact h
      | some s2 =>
        rw [eg] at h
        dsimp only at h ⊢
        unfold Ev0 at h
        cases et : t s2 with
        | no => rw [et] at h; exact h
        | ok b s3 =>
          rw [et] at h
          cases b with
          | false => exact ih (i + 1) ys (wipeD s3 vs) (by omega) (by simpa [Br0] using h)
          | true =>
            dsimp only at h ⊢
            cases ee : e s3 with
            | no => rw [ee] at h; simp [Br0] at h
            | ok y s4 =>
              rw [ee] at h
              have h : I (i + 1) (ys ++ [y]) (wipeD s4 vs) := by simpa [Br0] using h
              have := ih (i + 1) (ys ++ [y]) (wipeD s4 vs) (by omega) h
              unfold Lc0 at this
              dsimp only
              cases el : lcl g t e vs (xs.drop (i + 1)) (wipeD s4 vs) with
              | no => rw [el] at this; exact this
              | ok zs s5 =>
                rw [el] at this
                dsimp only at this ⊢
                rw [List.append_assoc] at this
                exact this
  have := key xs.length 0 [] s (by omega) h0
  with_unfolding_all exact this
/-- a comprehension that changes nothing -/
theorem lc_map {xs : List D} {s : DS} {g : MG} {t : M Bool} {e : M D} {vs : List Nat} {Q : List D → DS → Prop} (f : D → Option D)
    (ht : ∀ d ∈ xs, So (g d s) fun s2 => Ev t s2 fun b s3 => Br b (Ev e s3 fun y s4 => f d = some y ∧ wipeD s4 vs = s) (f d = none ∧ wipeD s3 vs = s)) (he : Q (xs.filterMap f) s) : Lc xs s g t e vs Q := by
  refine lc_by (fun i ys s1 => s1 = s ∧ ys = (xs.take i).filterMap f) ⟨rfl, by simp⟩ (fun i d ys s1 hd hI => ?_) fun ys s1 hI => ?_
  · obtain ⟨rfl, rfl⟩ := hI
    have hx : xs.take (i + 1) = xs.take i ++ [d] := by rw [List.take_add_one, hd]; rfl
    have h := ht d (List.mem_of_getElem? hd)
    have conv : ∀ {o : Option DS} {P P' : DS → Prop}, So o P → (∀ a, P a → P' a) → So o P' := fun {o P P'} h f => by
      have h : So0 o P := by with_unfolding_all exact h
      have : So0 o P' := by
        unfold So0 at h ⊢
        cases o with
        | none => exact h
        | some a => exact f a h
      with_unfolding_all exact this
    refine conv h fun s2 h => ev_mono h fun b s3 h => br_i (fun hb => ?_) fun hb => ?_
    · subst hb
      rw [br_t] at h
      refine ev_mono h fun y s4 h => ⟨h.2, ?_⟩
      rw [hx, List.filterMap_append]
      simp [h.1]
    · subst hb
      rw [br_f] at h
      refine ⟨h.2, ?_⟩
      rw [hx, List.filterMap_append]
      simp [h.1]
  · obtain ⟨rfl, rfl⟩ := hI
    rw [List.take_length]
    exact he
theorem wpD0 {s : DS} : wipeD s [] = s := nr rfl
theorem wpDC {s : DS} {v : Nat} {vs : List Nat} : wipeD s (v :: vs) = (wipeD s vs).set v none := nr rfl
theorem bk0 {s1 s2 : DS} : back s1 s2 [] = s2 := nr rfl
def oat (s : DS) (v : Nat) : Option D := s[v]?.getD none
theorem bkC {s1 s2 : DS} {v : Nat} {vs : List Nat} : back s1 s2 (v :: vs) = (back s1 s2 vs).set v (oat s1 v) := nr rfl
theorem oat0 {x : Option D} {s : DS} : oat (x :: s) 0 = x := nr rfl
theorem oatS {x : Option D} {s : DS} {n : Nat} : oat (x :: s) (n + 1) = oat s n := nr rfl
/-- .. of one's own -/
theorem lcS_map {j : Nat} {xs : List D} {s : DS} {g : MG} {t : M Bool} {e : M D} {vs : List Nat} {Q : D → DS → Prop} (f : D → Option D) (hj : look s j = some (.list xs)) (hn : j ∉ vs)
    (ht : ∀ d ∈ xs, So (g d (wipeD s vs)) fun s2 => Ev t s2 fun b s3 => Br b (Ev e s3 fun y s4 => f d = some y ∧ wipeD s4 vs = wipeD s vs) (f d = none ∧ wipeD s3 vs = wipeD s vs))
    (hf : fits (xs.filterMap f).length = true) (he : Q (.list (xs.filterMap f)) (back s (wipeD s vs) vs)) : Ev (mLcS j g t e vs) s Q := by
  have hj1 : s[j]? = some (some (.list xs)) := look_some hj
  have hj2 : (wipeD s vs)[j]? = some (some (.list xs)) := by rw [wipeD_get _ _ _ hn]; exact hj1
  have key : ∀ (n i : Nat), n + i = xs.length → lclS j g t e vs n i (wipeD s vs) = .ok ((xs.drop i).filterMap f) (wipeD s vs) := fun n => by
    induction n with
    | zero =>
      intro i hi
      unfold lclS
      rw [hj2, List.drop_of_length_le (by omega)]
      simp only
      rw [if_pos (by omega)]
      rfl
    | succ n ih =>
      intro i hi
      have hlt : i < xs.length := by omega
      have h := ht xs[i] (List.getElem_mem hlt)
      have h : So0 (g xs[i] (wipeD s vs)) fun s2 => Ev0 t s2 fun b s3 => Br0 b (Ev0 e s3 fun y s4 => f xs[i] = some y ∧ wipeD s4 vs = wipeD s vs) (f xs[i] = none ∧ wipeD s3 vs = wipeD s vs) := by with_unfolding_all exact h
      unfold lclS
      rw [hj2, List.drop_eq_getElem_cons hlt, List.filterMap_cons]
      simp only
      rw [List.getElem?_eq_getElem hlt]
      simp only
      unfold So0 at h
      cases eg : g xs[i] (wipeD s vs) with
      | none => rw [eg] at h; exact h.elim
      | some s2 =>
        rw [eg] at h
        dsimp only at h ⊢
        unfold Ev0 at h
        cases et : t s2 with
        | no => rw [et] at h; exact h.elim
        | ok b s3 =>
          rw [et] at h
          cases b with
          | false =>
            have h : f xs[i] = none ∧ wipeD s3 vs = wipeD s vs := by simpa [Br0] using h
            simp only [h.1, h.2]
            exact ih (i + 1) (by omega)
          | true =>
            dsimp only at h
            simp only
            cases ee : e s3 with
            | no => rw [ee] at h; simp [Br0] at h
            | ok y s4 =>
              rw [ee] at h
              have h : f xs[i] = some y ∧ wipeD s4 vs = wipeD s vs := by simpa [Br0] using h
              simp only [h.1, h.2, ih (i + 1) (by omega)]
  have : Ev0 (mLcS j g t e vs) s Q := by
    unfold Ev0 mLcS
    rw [hj1]
    simp only
    rw [key xs.length 0 (by omega), List.drop_zero]
    simp only
    rw [if_pos hf]
    exact he
  with_unfolding_all exact this
section
variable {X : Cx} {K : Fg} {O : List Kd} {k : Kd} {mt : M Bool} {me : M D}
/-- pe_lc, its parts' readings told by what they do -/
theorem pe_lcD {elt tg iter : Expr} {ifs : List Expr} {scope : Scope} {own : List (Str × Nat)} {pos : Pos} {wi : TI} {g : TG} {tt : TT} {te : TE} (_ : ∀ c : Ctx, DT K c O tt mt) (_ : ∀ c : Ctx, DO K c O k te me) (hc : X.calm = true) (hN : X.N.Nodup) (hi : PI X tg iter wi) (ok : BlkOk X.N X.env.scope scope own)
    (hg : ∀ (s : Shared) (H : Hp) (C : Addr) (cl : List (Str × Addr)) (fp : List Addr), PG (X.blk s H scope (compEnvC scope cl C X.env) fp) tg g) (ht : ∀ (s : Shared) (H : Hp) (C : Addr) (cl : List (Str × Addr)) (fp : List Addr), PTs (X.blk s H scope (compEnvC scope cl C X.env) fp) ifs tt)
    (he : ∀ (s : Shared) (H : Hp) (C : Addr) (cl : List (Str × Addr)) (fp : List Addr), PE (X.blk s H scope (compEnvC scope cl C X.env) fp) elt te) (hs : ∀ x, foldedSetIterable iter X.env x = pure x := by intro _; rfl) :
    PE X (.ListComp elt [⟨tg, iter, ifs, 0⟩] scope pos) (tLc wi g tt te (own.map (·.2))) := pe_lc hc hN hi ok hg ht he hs
theorem ps_setLcD {i : Nat} {y : Str} {py : Pos} {elt tg iter : Expr} {ifs : List Expr} {scope : Scope} {own : List (Str × Nat)} {pos spos : Pos} {wi : TI} {g : TG} {tt : TT} {te : TE} (_ : ∀ c : Ctx, DT K c O tt mt) (_ : ∀ c : Ctx, DO K c O k te me) (hc : X.calm = true) (hN : X.N.Nodup) (hy : X.N[i]? = some y) (hyl : X.env.scope.names.lookup y = some .local)
    (hsw : swapsWith (.ListComp elt [⟨tg, iter, ifs, 0⟩] scope pos) (some (.Name y py)) spos.line X.env = pure true) (hi : PI X tg iter wi) (ok : BlkOk X.N X.env.scope scope own)
    (hg : ∀ (s : Shared) (H : Hp) (C : Addr) (cl : List (Str × Addr)) (fp : List Addr), PG (X.blk s H scope (compEnvC scope cl C X.env) fp) tg g) (ht : ∀ (s : Shared) (H : Hp) (C : Addr) (cl : List (Str × Addr)) (fp : List Addr), PTs (X.blk s H scope (compEnvC scope cl C X.env) fp) ifs tt)
    (he : ∀ (s : Shared) (H : Hp) (C : Addr) (cl : List (Str × Addr)) (fp : List Addr), PE (X.blk s H scope (compEnvC scope cl C X.env) fp) elt te) (hs : ∀ x, foldedSetIterable iter X.env x = pure x := by intro _; rfl) :
    PS X (.Assign [.Name y py] (.ListComp elt [⟨tg, iter, ifs, 0⟩] scope pos) spos) (tAsg (tLc wi g tt te (own.map (·.2))) (gName i)) := ps_setLc hc hN hy hyl hsw hi ok hg ht he hs
end
end Z
set_option Elab.async false
set_option linter.all false
set_option maxRecDepth 100000
namespace Z
open PySem L2
/-! ### extend, reversed copies, bit_length, enumerate -/
def sExt (i : Nat) (m : M D) : MS := fun s => match s[i]? with
  | some (some (.list _)) => match m s with
    | .ok (.list ys) s' => match s'[i]? with
      | some (some (.list xs)) => if fits (xs.length + ys.length) then .nx (s'.set i (some (.list (xs ++ ys)))) else .no
      | _ => .no
    | _ => .no
  | _ => .no
section
variable {K : Fg} {c : Ctx} {O Ob : List Kd} {te : TE} {m : M D} {b1 : M BR}
theorem c_ext (i : Nat) (h : DO K c O (.ls .sh) te m) (hk : lsish (O.getD i .sh) = true := by rfl) : DC K c Ob O (tDrop (tBM K "list" rExtend (tVar i) (tCons te tNil))) (sExt i m) O := ⟨fun {F H σ fps ds} r E p => by
  unfold sExt at p
  split at p
  · rename_i ys hy
    obtain ⟨v, hv, ow⟩ := r.slots i _ hy
    obtain ⟨q0, zs, es, rfl, _, hq0, _, _⟩ := ow_ls hk ow
    refine ⟨_, hv, .inl ⟨rfl, zs, SqL.of hq0⟩, ?_⟩
    split at p
    · rename_i ys' s' e
      split at p
      · rename_i xs hx
        split at p
        · rename_i hz
          refine h.run r e _ fun F1 H1 fps1 w fpw s1 r1 oww hfw ndw => ?_
          obtain ⟨v1, hv1, ow1⟩ := r1.slots i _ hx
          obtain ⟨q1, zs1, es1, rfl, e2, hq1, hfp, al⟩ := ow_ls hk ow1
          cases e2
          have e3 : q1 = q0 := by rw [hv] at hv1; cases hv1; rfl
          subst e3
          obtain ⟨b, ws, es2, rfl, e4, hb, _, al2⟩ := ow_ls (k := .ls .sh) rfl oww
          cases e4
          refine ⟨_, b, zs1, ws, rfl, rfl, hq1, hb, by rw [dpa_len al, dpa_len al2]; exact fits_of hz, ?_⟩
          exact p F1 _ σ fps1 s1 (r1.mut hk ⟨_, hx⟩ hv hfp (dpa_append al al2))
        · exact p.elim
      · exact p.elim
    · exact p.elim
  · exact p.elim⟩
def revD : D → Option D
  | .list xs => some (.list xs.reverse)
  | _ => none
theorem dpa_rev {F : Hp} {vs : List V} {ds : List D} (h : DpAll K F vs ds) : DpAll K F vs.reverse ds.reverse := by
  induction h using DpAll.rec (motive_1 := fun _ _ _ => True) with
  | nil => exact .nil
  | cons h _ _ ih =>
    rw [List.reverse_cons, List.reverse_cons]
    exact dpa_append ih (.cons h .nil)
  | _ => trivial
theorem d_rev (h : DB K c O te b1) : DE K c O (tRevL K te) (mUn revD b1) := ⟨fun {F H σ fps ds ds' d} rl e Q q => by
  obtain ⟨x, s1, e1, g2⟩ := bnd_ok e
  refine h.run rl e1 _ fun F1 H1 fps1 v sF r1 bv => ?_
  split at g2
  · rename_i dx hx
    obtain ⟨g3, z⟩ := opt_ok g2
    subst z
    unfold revD at g3
    split at g3
    · cases g3
      obtain ⟨a, xs, rfl, sq, al⟩ := (Bm.vw r1 bv hx).lst r1.sub
      refine ⟨a, xs, rfl, sq, fun p hp => ?_⟩
      have s2 : Same F1 (upd F1 p (.lst xs.reverse)) := same_upd (r1.fresh hp).1
      exact q _ _ fps1 (.ref p) (sF.trans s2) (r1.alloc hp _) (.lst (SqL.of upd_same) (dpa_mono s2 (dpa_rev al)))
    · cases g3
  · cases g2⟩
def bitsD : D → Option D
  | .int i => some (.int (Builtin.Int.intBits i : Nat))
  | _ => none
theorem d_bits (h : DE K c O te m) : DE K c O (tBits te) (mUn bitsD (mV m)) := ⟨fun {F H σ fps ds ds' d} rl e Q q => by
  obtain ⟨x, s1, e1, g2⟩ := bnd_ok e
  obtain ⟨y, s2, e2, g3⟩ := bnd_ok e1
  cases g3
  refine h.run rl e2 _ fun F1 H1 fps1 v sF r1 dp => ?_
  simp only [res] at g2
  obtain ⟨g4, z⟩ := opt_ok g2
  subst z
  unfold bitsD at g4
  split at g4
  · cases g4
    cases dp
    exact ⟨_, rfl, q F1 H1 fps1 _ sF r1 (.int _)⟩
  · cases g4⟩
def enumD (xs : List D) : List D := xs.mapIdx fun i x => .tuple [.int i, x]
def mEnum (ml : M (List D)) : M (List D) := bnd ml fun ds => opt (match ds with | [.list xs] => some (enumD xs) | _ => none)
theorem enumD_get {xs : List D} {i : Nat} : (enumD xs)[i]? = (xs[i]?).map fun x => .tuple [.int i, x] := by
  unfold enumD
  rw [List.getElem?_mapIdx]
theorem enumD_len {xs : List D} : (enumD xs).length = xs.length := by unfold enumD; rw [List.length_mapIdx]
theorem walk_e {F : Hp} {a : Addr} {xs : List V} {ds : List D} (hq : SqL K F a xs) (al : DpAll K F xs ds) : Walks K F (Ite K a) (enumD ds) := fun F1 H1 i s1 s2 => by
  have hq1 := sqL_mono s2 (sqL_mono s1 hq)
  refine ⟨fun d hd => ?_, fun hi => ⟨xs, hq1, by rw [dpa_len al, hi, enumD_len]; exact Nat.le_refl _⟩⟩
  rw [enumD_get] at hd
  cases hx : ds[i]? with
  | none => rw [hx] at hd; cases hd
  | some x =>
    rw [hx] at hd
    cases hd
    obtain ⟨v, hv, dp⟩ := dpa_get al hx
    refine ⟨⟨xs, v, hq1, hv⟩, fun y H2 hy => ?_⟩
    obtain ⟨T, x', rfl, hT, rfl, hx'⟩ := hy
    have e := hx' xs hq1
    rw [hv] at e
    cases e
    have s3 : Same F1 (upd F1 T (.tup [.int (i : Nat), v])) := same_upd (s2.free hT)
    exact ⟨_, .new _ hT, .tup (SqT.of upd_same) (.cons (.int _) (.cons (dp_mono s3 (dp_mono s1 dp)) .nil))⟩
theorem i_enum {tl : TA} {ml : M (List D)} (h : DA K c O tl ml) : DI K c O (iEnum K tl) (mEnum ml) := ⟨fun {F H σ fps ds ds' xs} r e R q => by
  obtain ⟨es, s1, e1, g1⟩ := bnd_ok e
  obtain ⟨g2, z⟩ := opt_ok g1
  subst z
  split at g2
  · cases g2
    refine h.run r e1 _ fun F1 H1 fps1 vs sF r1 al => ?_
    cases al with
    | cons dp al =>
      cases al
      cases dp with
      | lst hq al => exact ⟨_, _, rfl, sqL_mono r1.sub hq, q F1 H1 fps1 _ sF r1 (walk_e hq al)⟩
  · cases g2⟩
end
section
variable {s : DS} {Nx : DS → Prop} {Rt : D → DS → Prop} {Bk Ct : DS → Prop}
theorem run_ext_0 {i : Nat} {m : M D} : Run0 (sExt i m) s Nx Rt Bk Ct = So0 (look s i) fun d0 => So0 (lof d0) fun _ => Ev0 m s fun d s' => So0 (lof d) fun ys => So0 (look s' i) fun d1 => So0 (lof d1) fun xs => fits (xs.length + ys.length) = true ∧ Nx (s'.set i (some (.list (xs ++ ys)))) := by
  unfold look
  dsimp only [Run0, sExt]
  cases h : s[i]? with
  | none => rfl
  | some o =>
    cases o with
    | none => rfl
    | some d0 =>
      cases d0 <;> try rfl
      unfold Ev0
      cases m s with
      | no => rfl
      | ok d s' =>
        cases d <;> try rfl
        dsimp only [So0, lof]
        cases h' : s'[i]? with
        | none => rfl
        | some o =>
          cases o with
          | none => rfl
          | some d1 =>
            cases d1 <;> try rfl
            rename_i ys l xs
            dsimp only
            cases fits (xs.length + l.length) <;> simp
theorem run_ext {i : Nat} {m : M D} : Run (sExt i m) s Nx Rt Bk Ct = So (look s i) fun d0 => So (lof d0) fun _ => Ev m s fun d s' => So (lof d) fun ys => So (look s' i) fun d1 => So (lof d1) fun xs => fits (xs.length + ys.length) = true ∧ Nx (s'.set i (some (.list (xs ++ ys)))) := by with_unfolding_all exact run_ext_0
theorem so_rev {l : List D} {Q : D → Prop} : So (revD (.list l)) Q = Q (.list l.reverse) := by with_unfolding_all exact nr rfl
theorem so_bits {i : Int} {Q : D → Prop} : So (bitsD (.int i)) Q = Q (.int (Builtin.Int.intBits i : Nat)) := by with_unfolding_all exact nr rfl
def en1 : List D → Option (List D)
  | [.list xs] => some (enumD xs)
  | _ => none
theorem ev_enum {m : M (List D)} {Q : List D → DS → Prop} : Ev (mEnum m) s Q = Ev m s fun d s' => So (en1 d) fun xs => Q xs s' := by
  unfold mEnum
  rw [ev_bnd]
  have e : ∀ (d : List D) (s' : DS), Ev (opt (match d with | [.list xs] => some (enumD xs) | _ => none)) s' Q = So (en1 d) fun xs => Q xs s' := fun d s' => by
    rw [ev_opt]
    unfold en1
    rfl
  have e2 : (fun d s' => Ev (opt (match d with | [.list xs] => some (enumD xs) | _ => none)) s' Q) = fun d s' => So (en1 d) fun xs => Q xs s' := funext fun d => funext fun s' => e d s'
  rw [e2]
theorem so_en {l : List D} {Q : List D → Prop} : So (en1 [.list l]) Q = Q (enumD l) := by with_unfolding_all exact nr rfl
end
end Z
namespace Z
open PySem L2
/-- xs + ys, a list of one's own -/
def catD : D → D → Option D
  | .list xs, .list ys => if fits (xs.length + ys.length) then some (.list (xs ++ ys)) else none
  | _, _ => none
theorem o_cat {K : Fg} {c : Ctx} {O : List Kd} {ta tb : TE} {b1 b2 : M BR} (ha : DB K c O ta b1) (hb : DB K c O tb b2) : DO K c O (.ls .sh) (tOp (rAddU K) ta tb) (mOp catD b1 b2) := ⟨fun {F H σ fps ds ds' d} rl e Q q => by
  obtain ⟨x, s1, e1, g1⟩ := bnd_ok e
  obtain ⟨y, s2, e2, g2⟩ := bnd_ok g1
  refine ha.run rl e1 _ fun F1 H1 fps1 v sF r1 bv => ?_
  refine hb.run r1 e2 _ fun F2 H2 fps2 u sF2 r2 bu => ?_
  split at g2
  · rename_i dx dy hx hy
    obtain ⟨g3, z⟩ := opt_ok g2
    subst z
    unfold catD at g3
    split at g3
    · split at g3
      · rename_i hf
        cases g3
        obtain ⟨p, xs, rfl, sq, al⟩ := (Bm.vw r2 (bv.mono sF2) hx).lst r2.sub
        obtain ⟨p2, xs2, rfl, sq2, al2⟩ := (Bm.vw r2 bu hy).lst r2.sub
        refine .inr (.inr (.inl ⟨p, p2, xs, xs2, rfl, rfl, sq, sq2, by rw [dpa_len al, dpa_len al2]; exact fits_of hf, fun l hl => ?_⟩))
        obtain ⟨hF, h0, hq⟩ := r2.fresh hl
        refine q F2 _ fps2 (.ref l) [l] (sF.trans sF2) (r2.allocO hl _) (ls_ow upd_same (dpa_append al al2)) (fun q' hq' => ?_) (by simp)
        have : q' = l := by simpa using hq'
        subst this
        exact ⟨hF, by rw [upd_same]; simp, h0, hq⟩
      · cases g3
    · cases g3
  · cases g2⟩
theorem so_catD {l k : List D} {Q : D → Prop} : So (catD (.list l) (.list k)) Q = (fits (l.length + k.length) = true ∧ Q (.list (l ++ k))) := by
  show So (if fits (l.length + k.length) then some (PyData.list (l ++ k)) else none) Q = _
  rw [so_if, so_some]
end Z
set_option Elab.async false
set_option linter.all false
set_option maxRecDepth 100000
namespace Z
open PySem L2
/-! ### == of things of bounded depth -/
def shp : Nat → D → Bool
  | _, .none => true
  | _, .bool _ => true
  | _, .int _ => true
  | _, .str x => PyData.canLay0 (.str x)
  | n + 1, .list xs => xs.all (shp n)
  | n + 1, .tuple xs => xs.all (shp n)
  | _, _ => false
theorem shp_lay : ∀ (n : Nat) (d : D), shp n d = true → PyData.canLay0 d = true ∧ PyData.depth d ≤ n := by
  intro n
  induction n with
  | zero =>
    intro d h
    cases d with
    | none => exact ⟨rfl, by simp [PyData.depth]⟩
    | bool b => exact ⟨rfl, by simp [PyData.depth]⟩
    | int b => exact ⟨rfl, by simp [PyData.depth]⟩
    | str b => exact ⟨by simpa [shp] using h, by simp [PyData.depth]⟩
    | list l => simp [shp] at h
    | tuple l => simp [shp] at h
    | dict l => simp [shp] at h
  | succ n ih =>
    have all : ∀ l : List D, l.all (shp n) = true → PyData.canLayAll0 l = true ∧ PyData.depthAll l ≤ n := fun l => by
      induction l with
      | nil => intro _; simp [PyData.canLayAll0, PyData.depthAll]
      | cons x l ihl =>
        intro h
        rw [List.all_cons, Bool.and_eq_true] at h
        obtain ⟨a, b⟩ := ih x h.1
        obtain ⟨c, e⟩ := ihl h.2
        simp [PyData.canLayAll0, PyData.depthAll, a, c]
        omega
    intro d h
    cases d with
    | none => exact ⟨rfl, by simp [PyData.depth]⟩
    | bool b => exact ⟨rfl, by simp [PyData.depth]⟩
    | int b => exact ⟨rfl, by simp [PyData.depth]⟩
    | str b => exact ⟨by simpa [shp] using h, by simp [PyData.depth]⟩
    | list l =>
      obtain ⟨a, b⟩ := all l (by simpa [shp] using h)
      exact ⟨by simpa [PyData.canLay0] using a, by simp [PyData.depth]; omega⟩
    | tuple l =>
      obtain ⟨a, b⟩ := all l (by simpa [shp] using h)
      exact ⟨by simpa [PyData.canLay0] using a, by simp [PyData.depth]; omega⟩
    | dict l => simp [shp] at h
theorem shaped_of {n : Nat} {d : D} (h : shp n d = true) (hn : n ≤ 63 := by decide) : SeqAt.shaped d = true := by
  obtain ⟨a, b⟩ := shp_lay n d h
  unfold SeqAt.shaped
  rw [a]
  simp
  omega
theorem eqv_same : ∀ (n : Nat) (d : D), shp n d = true → PyData.eqv d d = true := by
  intro n
  induction n with
  | zero =>
    intro d h
    cases d with
    | none => simp [PyData.eqv]
    | bool b => simp [PyData.eqv]
    | int b => simp [PyData.eqv]
    | str b => simp [PyData.eqv]
    | list l => simp [shp] at h
    | tuple l => simp [shp] at h
    | dict l => simp [shp] at h
  | succ n ih =>
    have all : ∀ l : List D, l.all (shp n) = true → PyData.eqvAll l l = true := fun l => by
      induction l with
      | nil => intro _; simp [PyData.eqvAll]
      | cons x l ihl =>
        intro h
        rw [List.all_cons, Bool.and_eq_true] at h
        simp [PyData.eqvAll, ih x h.1, ihl h.2]
    intro d h
    cases d with
    | none => simp [PyData.eqv]
    | bool b => simp [PyData.eqv]
    | int b => simp [PyData.eqv]
    | str b => simp [PyData.eqv]
    | list l => simpa [PyData.eqv] using all l (by simpa [shp] using h)
    | tuple l => simpa [PyData.eqv] using all l (by simpa [shp] using h)
    | dict l => simp [shp] at h
section
variable {x y : D} {Q : D → Prop}
theorem eqB_of (h1 : SeqAt.shaped x = true) (h2 : SeqAt.shaped y = true) : eqB x y = some (PyData.eqv x y) := by
  unfold eqB
  split
  · rw [PyData.eqv]
    exact congrArg some (Bool.beq_eq_decide_eq _ _).symm
  · rw [h1, h2]
    rfl
theorem so_eqd (h1 : SeqAt.shaped x = true) (h2 : SeqAt.shaped y = true) (q : Q (.bool (PyData.eqv x y))) : So (eqD x y) Q := by
  unfold eqD
  rw [eqB_of h1 h2, Option.map_some, so_some]
  exact q
theorem so_ned (h1 : SeqAt.shaped x = true) (h2 : SeqAt.shaped y = true) (q : Q (.bool (!PyData.eqv x y))) : So (neD x y) Q := by
  unfold neD
  rw [eqB_of h1 h2, Option.map_some, so_some]
  exact q
/-- equal things -/
theorem so_eq_s {n : Nat} (h : shp n x = true) (q : Q (.bool true)) (hn : n ≤ 63 := by decide) : So (eqD x x) Q := so_eqd (shaped_of h hn) (shaped_of h hn) (by rw [eqv_same n x h]; exact q)
theorem so_ne_s {n : Nat} (h : shp n x = true) (q : Q (.bool false)) (hn : n ≤ 63 := by decide) : So (neD x x) Q := so_ned (shaped_of h hn) (shaped_of h hn) (by rw [eqv_same n x h]; exact q)
theorem so_eqBB {a b : Bool} : So (eqD (.bool a) (.bool b)) Q = Q (.bool (a == b)) := by
  unfold eqD
  rw [eqB_of (shaped_of (n := 0) rfl) (shaped_of (n := 0) rfl), Option.map_some, so_some]
  simp [PyData.eqv]
theorem so_neBB {a b : Bool} : So (neD (.bool a) (.bool b)) Q = Q (.bool (!(a == b))) := by
  unfold neD
  rw [eqB_of (shaped_of (n := 0) rfl) (shaped_of (n := 0) rfl), Option.map_some, so_some]
  simp [PyData.eqv]
/-- a list against [] -/
theorem so_neNil {n : Nat} {l : List D} (h : shp n (.list l) = true) (q : Q (.bool (!l.isEmpty))) (hn : n ≤ 63 := by decide) : So (neD (.list l) (.list [])) Q := so_ned (shaped_of h hn) (shaped_of (n := 1) rfl) (by
  cases l with
  | nil => simpa [PyData.eqv, PyData.eqvAll] using q
  | cons a l => simpa [PyData.eqv, PyData.eqvAll] using q)
theorem so_eqNil {n : Nat} {l : List D} (h : shp n (.list l) = true) (q : Q (.bool l.isEmpty)) (hn : n ≤ 63 := by decide) : So (eqD (.list l) (.list [])) Q := so_eqd (shaped_of h hn) (shaped_of (n := 1) rfl) (by
  cases l with
  | nil => simpa [PyData.eqv, PyData.eqvAll] using q
  | cons a l => simpa [PyData.eqv, PyData.eqvAll] using q)
theorem shp_ints (ns : List Int) : shp 1 (.list (ns.map .int)) = true := by
  simp [shp]
theorem shp_rg (a b : Int) : shp 1 (.list (rgD a b)) = true := by
  simp [shp, rgD]
end
theorem at_last {α : Type} {l : List α} (v : α) : atI (l ++ [v]) (-1) = some v := atI_last l v
/-- two ways that join -/
theorem br_cut (P : DS → Prop) {x : Bool} {A B : MS} {s : DS} {Nx : DS → Prop} {Rt : D → DS → Prop} {Bk Ct : DS → Prop} (hA : x = true → Run A s P Rt Bk Ct) (hB : x = false → Run B s P Rt Bk Ct) (hN : ∀ s', P s' → Nx s') : Br x (Run A s Nx Rt Bk Ct) (Run B s Nx Rt Bk Ct) :=
  br_i (fun h => run_mono (hA h) hN (fun _ _ z => z) (fun _ z => z) fun _ z => z) fun h => run_mono (hB h) hN (fun _ _ z => z) (fun _ z => z) fun _ z => z
/-- a if t else b, either way one value -/
theorem br_ev {x : Bool} {a b : M D} {s : DS} {Q : D → DS → Prop} (v : D) (ha : x = true → Ev a s fun d s' => d = v ∧ s' = s) (hb : x = false → Ev b s fun d s' => d = v ∧ s' = s) (q : Q v s) : Br x (Ev a s Q) (Ev b s Q) :=
  br_i (fun h => ev_mono (ha h) fun d s' e => by rw [e.1, e.2]; exact q) fun h => ev_mono (hb h) fun d s' e => by rw [e.1, e.2]; exact q
/-- a or b as a value -/
theorem br_orV {x : Bool} {A : Prop} {b : M D} {s : DS} {Q : D → DS → Prop} (v : Bool) (ha : x = true → v = true) (hb : x = false → Ev b s fun d s' => d = .bool v ∧ s' = s) (q : Q (.bool v) s) (hA : Q (.bool true) s = A := by rfl) : Br x A (Ev b s Q) :=
  br_i (fun h => by rw [← hA, ← ha h]; exact q) fun h => ev_mono (hb h) fun d s' e => by rw [e.1, e.2]; exact q
theorem br_andV {x : Bool} {A : Prop} {b : M D} {s : DS} {Q : D → DS → Prop} (v : Bool) (ha : x = false → v = false) (hb : x = true → Ev b s fun d s' => d = .bool v ∧ s' = s) (q : Q (.bool v) s) (hA : Q (.bool false) s = A := by rfl) : Br x (Ev b s Q) A :=
  br_i (fun h => ev_mono (hb h) fun d s' e => by rw [e.1, e.2]; exact q) fun h => by rw [← hA, ← ha h]; exact q
end Z
set_option Elab.async false
set_option linter.all false
set_option maxRecDepth 100000
namespace Z
open PySem L2
/-! ### is, of truths -/
def isBl : D → D → Option D
  | .bool a, .bool b => some (.bool (decide (a = b)))
  | _, _ => none
def notBl : D → D → Option D
  | .bool a, .bool b => some (.bool (!decide (a = b)))
  | _, _ => none
theorem g_isBl {K : Fg} : OpG K rIsB isBl := fun F H x y dx dy d sF vx vy e Q q => by
  unfold isBl at e
  split at e
  · cases e
    rw [vx.bl, vy.bl]
    exact ⟨_, _, rfl, rfl, q F H _ .refl (.bl _)⟩
  · cases e
theorem g_notBl {K : Fg} : OpG K rNotB notBl := fun F H x y dx dy d sF vx vy e Q q => by
  unfold notBl at e
  split at e
  · cases e
    rw [vx.bl, vy.bl]
    exact ⟨_, _, rfl, rfl, q F H _ .refl (.bl _)⟩
  · cases e
theorem so_isBl {a b : Bool} {Q : D → Prop} : So (isBl (.bool a) (.bool b)) Q = Q (.bool (decide (a = b))) := by with_unfolding_all exact nr rfl
theorem so_notBl {a b : Bool} {Q : D → Prop} : So (notBl (.bool a) (.bool b)) Q = Q (.bool (!decide (a = b))) := by with_unfolding_all exact nr rfl
end Z
set_option linter.all false
set_option maxHeartbeats 1000000
namespace Qm
/-! ### points at the edges of a cell: k is the base less 1, c base times most -/
def rch (k c x : Int) : Int := c * x / k
def lrch (k c y : Int) : Int := -(-k * y / c)
def bot (k c low x : Int) : Int := if -rch k c x > low then -rch k c x else low
def pk (k c high x : Int) : Int := if rch k c x < high then rch k c x else high
def ep1 (k c first last low high x : Int) : List (Int × Int) := if first ≤ x ∧ x ≤ last ∧ bot k c low x ≤ pk k c high x then [(x, bot k c low x), (x, pk k c high x)] else []
def eps (k c first last low high : Int) : List (Int × Int) := ep1 k c first last low high first ++ ep1 k c first last low high last ++ ep1 k c first last low high (lrch k c low) ++ ep1 k c first last low high (lrch k c (-high))
theorem rch_spec {k c x : Int} (hk : 0 < k) : k * rch k c x ≤ c * x ∧ c * x < k * rch k c x + k := by
  have h1 := Int.emod_add_mul_ediv (c * x) k
  have h2 := Int.emod_nonneg (c * x) (show k ≠ 0 by omega)
  have h3 := Int.emod_lt_of_pos (c * x) hk
  unfold rch
  omega
theorem lrch_spec {k c y : Int} (hc : 0 < c) : k * y ≤ c * lrch k c y ∧ c * lrch k c y < k * y + c := by
  have h1 := Int.emod_add_mul_ediv (-k * y) c
  have h2 := Int.emod_nonneg (-k * y) (show c ≠ 0 by omega)
  have h3 := Int.emod_lt_of_pos (-k * y) hc
  unfold lrch
  rw [Int.neg_mul] at *
  rw [Int.mul_neg]
  omega
theorem le_rch {k c x y : Int} (hk : 0 < k) : y ≤ rch k c x ↔ k * y ≤ c * x := by
  unfold rch
  rw [Int.le_ediv_iff_mul_le hk, Int.mul_comm]
theorem mem_eps {k c first last low high x : Int} (hx : x = first ∨ x = last ∨ x = lrch k c low ∨ x = lrch k c (-high)) (h1 : first ≤ x) (h2 : x ≤ last) (h3 : bot k c low x ≤ pk k c high x) : (x, bot k c low x) ∈ eps k c first last low high ∧ (x, pk k c high x) ∈ eps k c first last low high := by
  have e : ep1 k c first last low high x = [(x, bot k c low x), (x, pk k c high x)] := if_pos ⟨h1, h2, h3⟩
  unfold eps
  simp only [List.mem_append]
  rcases hx with h | h | h | h
  · rw [h] at e ⊢
    rw [e]
    simp
  · rw [h] at e ⊢
    rw [e]
    simp
  · rw [← h, e]
    simp
  · rw [← h, e]
    simp
theorem of_eps {k c first last low high : Int} {p : Int × Int} (h : p ∈ eps k c first last low high) : first ≤ p.1 ∧ p.1 ≤ last ∧ low ≤ p.2 ∧ p.2 ≤ high ∧ -rch k c p.1 ≤ p.2 ∧ p.2 ≤ rch k c p.1 := by
  have key : ∀ x, p ∈ ep1 k c first last low high x → first ≤ p.1 ∧ p.1 ≤ last ∧ low ≤ p.2 ∧ p.2 ≤ high ∧ -rch k c p.1 ≤ p.2 ∧ p.2 ≤ rch k c p.1 := fun x hp => by
    unfold ep1 at hp
    split at hp
    · rename_i hc
      obtain ⟨c1, c2, c3⟩ := hc
      have b1 : low ≤ bot k c low x ∧ -rch k c x ≤ bot k c low x := by unfold bot; split <;> omega
      have b2 : pk k c high x ≤ high ∧ pk k c high x ≤ rch k c x := by unfold pk; split <;> omega
      rcases List.mem_cons.mp hp with e | hp
      · rw [e]
        dsimp only
        omega
      · rcases List.mem_cons.mp hp with e | hp
        · rw [e]
          dsimp only
          omega
        · cases hp
    · cases hp
  unfold eps at h
  simp only [List.mem_append] at h
  rcases h with ((h | h) | h) | h <;> exact key _ h
/-- a cell at a great scale -/
structure Sc (k c L R lo hi S : Int) : Prop where
  k1 : 1 ≤ k
  k2 : k ≤ 15
  c1 : k ≤ c
  c2 : c ≤ 240
  L1 : 1 ≤ L
  LR : L < R
  lh : lo < hi
  S1 : S = 1024
  m1 : 0 < lo → k * lo < c * R
  m2 : hi < 0 → k * -hi < c * R
section
variable {k c L R lo hi S u : Int}
theorem Sc.last (s : Sc k c L R lo hi S) : lo * S ≤ rch k c (R * S - 1) ∧ -rch k c (R * S - 1) ≤ hi * S - 1 := by
  have k1 := s.k1
  have k2 := s.k2
  have c1 := s.c1
  have c2 := s.c2
  have L1 := s.L1
  have LR := s.LR
  have S1 := s.S1
  have eR : c * (R * S - 1) = c * R * S - c := by rw [Int.mul_sub, Int.mul_assoc, Int.mul_one]
  have cR : 0 < c * R := Int.mul_pos (by omega) (by omega)
  subst S1
  refine ⟨?_, ?_⟩
  · rw [le_rch (by omega), eR, ← Int.mul_assoc]
    by_cases h : 0 < lo
    · have := s.m1 h
      omega
    · have : k * lo ≤ 0 := Int.mul_nonpos_of_nonneg_of_nonpos (by omega) (by omega)
      omega
  · have : -(hi * 1024 - 1) ≤ rch k c (R * 1024 - 1) := by
      rw [le_rch (by omega), eR]
      have e2 : k * -(hi * 1024 - 1) = k * -hi * 1024 + k := by
        rw [show -(hi * 1024 - 1) = -hi * 1024 + 1 by omega, Int.mul_add, ← Int.mul_assoc, Int.mul_one]
      rw [e2]
      by_cases h : hi < 0
      · have := s.m2 h
        omega
      · have : k * -hi ≤ 0 := Int.mul_nonpos_of_nonneg_of_nonpos (by omega) (by omega)
        omega
    omega
theorem bot_le {low high x : Int} (h1 : low ≤ high) (h2 : low ≤ rch k c x) (h3 : -rch k c x ≤ high) (h4 : 0 ≤ rch k c x) : bot k c low x ≤ pk k c high x := by
  unfold bot pk
  split <;> split <;> omega
/-- some point lies too high for all figures below -/
theorem Sc.up (s : Sc k c L R lo hi S) (u1 : u ≤ c - k) (u2 : -240 ≤ u) (h : u * (if 0 ≤ u then L else R) < k * hi) : ∃ p ∈ eps k c (L * S) (R * S - 1) (lo * S) (hi * S - 1), u * p.1 < k * p.2 := by
  have k1 := s.k1
  have k2 := s.k2
  have c1 := s.c1
  have c2 := s.c2
  have L1 := s.L1
  have LR := s.LR
  have lh := s.lh
  have la := s.last
  have S1 := s.S1
  subst S1
  have lh2 : lo * 1024 ≤ hi * 1024 - 1 := by omega
  have r0 : ∀ x : Int, 0 ≤ x → 0 ≤ rch k c x := fun x hx => by
    rw [le_rch (by omega), Int.mul_zero]
    exact Int.mul_nonneg (by omega) hx
  have fl : L * 1024 ≤ R * 1024 - 1 := by omega
  -- u x against k (c x / k)
  have ur : ∀ x : Int, 1 ≤ x → u * x < k * rch k c x := fun x hx => by
    have := (rch_spec (k := k) (c := c) (x := x) (by omega)).2
    have h1 := Int.mul_le_mul_of_nonneg_right u1 (show 0 ≤ x by omega)
    have h2 := Int.mul_le_mul_of_nonneg_left hx (show 0 ≤ k by omega)
    rw [Int.sub_mul] at h1
    omega
  by_cases hf : rch k c (L * 1024) < lo * 1024
  · -- the first divisor lets no rest be
    obtain ⟨x1, x2⟩ := lrch_spec (k := k) (c := c) (y := lo * 1024) (by omega)
    have hlo : 0 < lo := by
      have := r0 (L * 1024) (by omega)
      omega
    have hm := s.m1 hlo
    have nf : c * (L * 1024) < k * (lo * 1024) := by
      have : ¬ k * (lo * 1024) ≤ c * (L * 1024) := fun z => absurd ((le_rch (by omega)).mpr z) (by omega)
      omega
    have e1 : k * (lo * 1024) = k * lo * 1024 := by rw [Int.mul_assoc]
    have fx : L * 1024 ≤ lrch k c (lo * 1024) := by
      have : c * (L * 1024) < c * lrch k c (lo * 1024) := by omega
      have := Int.lt_of_mul_lt_mul_left this (by omega)
      omega
    have xl : lrch k c (lo * 1024) ≤ R * 1024 - 1 := by
      have e2 : c * (R * 1024) = c * R * 1024 := by rw [Int.mul_assoc]
      have : c * lrch k c (lo * 1024) < c * (R * 1024) := by omega
      have := Int.lt_of_mul_lt_mul_left this (by omega)
      omega
    have hr : lo * 1024 ≤ rch k c (lrch k c (lo * 1024)) := (le_rch (by omega)).mpr x1
    have hb : bot k c (lo * 1024) (lrch k c (lo * 1024)) = lo * 1024 := by
      unfold bot
      rw [if_neg (by omega)]
    have hm' := mem_eps (high := hi * 1024 - 1) (.inr (.inr (.inl rfl))) fx xl (bot_le lh2 hr (by omega) (by omega))
    refine ⟨_, hm'.1, ?_⟩
    dsimp only
    rw [hb]
    generalize lrch k c (lo * 1024) = x at *
    have h1 := Int.mul_le_mul_of_nonneg_right u1 (show 0 ≤ x by omega)
    rw [Int.sub_mul] at h1
    have h2 : x ≤ k * x := by
      have := Int.mul_le_mul_of_nonneg_right k1 (show 0 ≤ x by omega)
      omega
    omega
  · by_cases hu : 0 ≤ u
    · rw [if_pos hu] at h
      have hu2 : 0 ≤ u * L := Int.mul_nonneg hu (by omega)
      have hh : 0 < hi := by
        have : 0 < k * hi := by omega
        exact Int.pos_of_mul_pos_right this (by omega)
      have rf := r0 (L * 1024) (by omega)
      have hm' := mem_eps (low := lo * 1024) (high := hi * 1024 - 1) (.inl rfl) (Int.le_refl _) fl (bot_le lh2 (by omega) (by omega) rf)
      refine ⟨_, hm'.2, ?_⟩
      dsimp only
      unfold pk
      split
      · exact ur _ (by omega)
      · have e1 : u * (L * 1024) = u * L * 1024 := by rw [Int.mul_assoc]
        have e2 : k * (hi * 1024 - 1) = k * hi * 1024 - k := by rw [Int.mul_sub, Int.mul_assoc, Int.mul_one]
        omega
    · rw [if_neg hu] at h
      have rl := r0 (R * 1024 - 1) (by omega)
      have hm' := mem_eps (low := lo * 1024) (high := hi * 1024 - 1) (.inr (.inl rfl)) fl (Int.le_refl _) (bot_le lh2 la.1 la.2 rl)
      refine ⟨_, hm'.2, ?_⟩
      dsimp only
      unfold pk
      split
      · exact ur _ (by omega)
      · have e1 : u * (R * 1024 - 1) = u * R * 1024 - u := by rw [Int.mul_sub, Int.mul_assoc, Int.mul_one]
        have e2 : k * (hi * 1024 - 1) = k * hi * 1024 - k := by rw [Int.mul_sub, Int.mul_assoc, Int.mul_one]
        omega
/-- some point lies too low for all figures above -/
theorem Sc.dn (s : Sc k c L R lo hi S) (u1 : k - c ≤ u) (u2 : u ≤ 240) (h : k * lo < u * (if 0 ≤ u then R else L)) : ∃ p ∈ eps k c (L * S) (R * S - 1) (lo * S) (hi * S - 1), k * p.2 < u * p.1 := by
  have k1 := s.k1
  have k2 := s.k2
  have c1 := s.c1
  have c2 := s.c2
  have L1 := s.L1
  have LR := s.LR
  have lh := s.lh
  have la := s.last
  have S1 := s.S1
  subst S1
  have lh2 : lo * 1024 ≤ hi * 1024 - 1 := by omega
  have r0 : ∀ x : Int, 0 ≤ x → 0 ≤ rch k c x := fun x hx => by
    rw [le_rch (by omega), Int.mul_zero]
    exact Int.mul_nonneg (by omega) hx
  have fl : L * 1024 ≤ R * 1024 - 1 := by omega
  have ur : ∀ x : Int, 1 ≤ x → k * -rch k c x < u * x := fun x hx => by
    have := (rch_spec (k := k) (c := c) (x := x) (by omega)).2
    have h1 := Int.mul_le_mul_of_nonneg_right u1 (show 0 ≤ x by omega)
    have h2 := Int.mul_le_mul_of_nonneg_left hx (show 0 ≤ k by omega)
    rw [Int.sub_mul] at h1
    rw [Int.mul_neg]
    omega
  by_cases hf : hi * 1024 - 1 < -rch k c (L * 1024)
  · obtain ⟨x1, x2⟩ := lrch_spec (k := k) (c := c) (y := -(hi * 1024 - 1)) (by omega)
    have rf1 : 1 ≤ rch k c (L * 1024) := by
      rw [le_rch (by omega), Int.mul_one]
      have := Int.mul_le_mul_of_nonneg_left (show 1 ≤ L * 1024 by omega) (show 0 ≤ c by omega)
      omega
    have hhi : hi < 0 := by omega
    have hm := s.m2 hhi
    have nf : c * (L * 1024) < k * -(hi * 1024 - 1) := by
      have : ¬ k * -(hi * 1024 - 1) ≤ c * (L * 1024) := fun z => absurd ((le_rch (by omega)).mpr z) (by omega)
      omega
    have e1 : k * -(hi * 1024 - 1) = k * -hi * 1024 + k := by
      rw [show -(hi * 1024 - 1) = -hi * 1024 + 1 by omega, Int.mul_add, ← Int.mul_assoc, Int.mul_one]
    have fx : L * 1024 ≤ lrch k c (-(hi * 1024 - 1)) := by
      have : c * (L * 1024) < c * lrch k c (-(hi * 1024 - 1)) := by omega
      have := Int.lt_of_mul_lt_mul_left this (by omega)
      omega
    have xl : lrch k c (-(hi * 1024 - 1)) ≤ R * 1024 - 1 := by
      have e2 : c * (R * 1024) = c * R * 1024 := by rw [Int.mul_assoc]
      have : c * lrch k c (-(hi * 1024 - 1)) < c * (R * 1024) := by omega
      have := Int.lt_of_mul_lt_mul_left this (by omega)
      omega
    have hr : -(hi * 1024 - 1) ≤ rch k c (lrch k c (-(hi * 1024 - 1))) := (le_rch (by omega)).mpr x1
    have hb : pk k c (hi * 1024 - 1) (lrch k c (-(hi * 1024 - 1))) = hi * 1024 - 1 := by
      unfold pk
      rw [if_neg (by omega)]
    have hm' := mem_eps (low := lo * 1024) (high := hi * 1024 - 1) (.inr (.inr (.inr rfl))) fx xl (bot_le lh2 (by omega) (by omega) (by omega))
    refine ⟨_, hm'.2, ?_⟩
    dsimp only
    rw [hb]
    generalize lrch k c (-(hi * 1024 - 1)) = x at *
    have h1 := Int.mul_le_mul_of_nonneg_right u1 (show 0 ≤ x by omega)
    rw [Int.sub_mul] at h1
    have h2 : x ≤ k * x := by
      have := Int.mul_le_mul_of_nonneg_right k1 (show 0 ≤ x by omega)
      omega
    rw [Int.mul_neg] at *
    omega
  · by_cases hu : 0 ≤ u
    · rw [if_pos hu] at h
      have rl := r0 (R * 1024 - 1) (by omega)
      have hm' := mem_eps (low := lo * 1024) (high := hi * 1024 - 1) (.inr (.inl rfl)) fl (Int.le_refl _) (bot_le lh2 la.1 la.2 rl)
      refine ⟨_, hm'.1, ?_⟩
      dsimp only
      unfold bot
      split
      · exact ur _ (by omega)
      · have e1 : u * (R * 1024 - 1) = u * R * 1024 - u := by rw [Int.mul_sub, Int.mul_assoc, Int.mul_one]
        have e2 : k * (lo * 1024) = k * lo * 1024 := by rw [Int.mul_assoc]
        omega
    · rw [if_neg hu] at h
      have hu2 : u * L < 0 := Int.mul_neg_of_neg_of_pos (by omega) (by omega)
      have hh : lo < 0 := by
        have : k * lo < 0 := by omega
        by_cases z : 0 ≤ lo
        · have := Int.mul_nonneg (show 0 ≤ k by omega) z
          omega
        · omega
      have rf := r0 (L * 1024) (by omega)
      have hm' := mem_eps (low := lo * 1024) (high := hi * 1024 - 1) (.inl rfl) (Int.le_refl _) fl (bot_le lh2 (by omega) (by omega) rf)
      refine ⟨_, hm'.1, ?_⟩
      dsimp only
      unfold bot
      split
      · exact ur _ (by omega)
      · have e1 : u * (L * 1024) = u * L * 1024 := by rw [Int.mul_assoc]
        have e2 : k * (lo * 1024) = k * lo * 1024 := by rw [Int.mul_assoc]
        omega
end
end Qm
set_option Elab.async false
set_option linter.all false
set_option maxRecDepth 100000
set_option maxHeartbeats 1000000
namespace S
open PySem L2 Z
/-! ### the text by places -/
def top (i : Nat) : Stmt := PySem.Challenge.pw_slackfigures_k07_whole_good_figures_serv.main.body.getD i (.Pass ⟨0, 0, 0, 0⟩)
abbrev s_law_deck : Stmt := top 13
abbrev s_law_pick : Stmt := top 14
abbrev s_law_kind : Stmt := top 15
abbrev s_law_looks : Stmt := top 17
abbrev s_law_great : Stmt := top 16
abbrev s_law_point : Stmt := top 18
abbrev s_cells_of : Stmt := top 5
abbrev s_edges : Stmt := top 1
abbrev s_is_met : Stmt := top 2
abbrev s_good_figures : Stmt := top 3
abbrev s_least_reaching : Stmt := top 7
abbrev s_edge_points : Stmt := top 8
abbrev s_serves : Stmt := top 6
abbrev s_spoiler : Stmt := top 9
abbrev s_both_served : Stmt := top 10
abbrev s_two_points : Stmt := top 11
abbrev s_law_right : Stmt := top 19
abbrev s_law : Stmt := top 20
/-! ### what the defs do with data -/
def b_law_deck : MS := (sSeq (sIf (mB (mOp geI (mV (mVar 0)) (mV (mOp powI (mV (mC (.int 10))) (mV (mC (.int 18))))))) (sRet (mLst (mCons (mOp subI (mV (mVar 0)) (mV (mOp powI (mV (mC (.int 10))) (mV (mC (.int 18)))))) (mCons (mOp modI (mV (mVar 0)) (mV (mC (.int 2147483579)))) (mCons (mVar 1) mNil))))) sNx) (sRet (mLst (mCons (mC (.int 0)) (mCons (mOp modI (mV (mVar 0)) (mV (mC (.int 2147483579)))) (mCons (mVar 1) mNil))))))
def F_law_deck : FD := fnD 2 2 (.ls .sh) b_law_deck
def b_law_pick : MS := (sSeq (sIf (mB (mOp gtI (mV (mOp ixD (mSlot 0) (mV (mC (.int 0))))) (mV (mC (.int 1))))) (sSeq (sSet 3 (mOp modI (mV (mOp ixD (mSlot 0) (mV (mC (.int 0))))) (mV (mVar 1)))) (sSeq (sPut 0 (mC (.int 0)) (mOp divI (mV (mOp ixD (mSlot 0) (mV (mC (.int 0))))) (mV (mVar 1)))) (sRet (mVar 3)))) sNx) (sSeq (sPut 0 (mC (.int 2)) (mOp addD (mV (mOp ixD (mSlot 0) (mV (mC (.int 2))))) (mV (mC (.int 1))))) (sSeq (sSet 2 (mOp modI (mV (mOp powI (mV (mOp addD (mV (mOp ixD (mSlot 0) (mV (mC (.int 1))))) (mV (mOp mulI (mV (mC (.int 15485867))) (mV (mOp ixD (mSlot 0) (mV (mC (.int 2))))))))) (mV (mC (.int 5))))) (mV (mC (.int 2147483647))))) (sSeq (sSet 3 (mOp divI (mV (mOp modI (mV (mOp powI (mV (mOp addD (mV (mVar 2)) (mV (mOp mulI (mV (mC (.int 7919))) (mV (mOp ixD (mSlot 0) (mV (mC (.int 2))))))))) (mV (mC (.int 3))))) (mV (mC (.int 2147483629))))) (mV (mC (.int 32))))) (sSeq (sIf (mB (mOp gtI (mV (mVar 1)) (mV (mC (.int 1000000))))) (sRet (mOp modI (mV (mOp addD (mV (mOp mulI (mV (mVar 3)) (mV (mC (.int 2147483563))))) (mV (mVar 2)))) (mV (mVar 1)))) sNx) (sRet (mOp modI (mV (mVar 3)) (mV (mVar 1)))))))))
def F_law_pick : FD := fnD 4 2 .sh b_law_pick
def b_law_kind : MS := (sSeq (sSet 1 (mOp ixD (mV (mLst (mCons (mC (.int 2)) (mCons (mC (.int 4)) (mCons (mC (.int 4)) (mCons (mC (.int 8)) (mCons (mC (.int 16)) mNil))))))) (mV (mCall1 F_law_pick 1 0 (mCons (mC (.int 5)) mNil))))) (sRet (mTup (mCons (mVar 1) (mCons (mOp addD (mV (mOp divI (mV (mVar 1)) (mV (mC (.int 2))))) (mV (mCall1 F_law_pick 1 0 (mCons (mOp subI (mV (mVar 1)) (mV (mOp divI (mV (mVar 1)) (mV (mC (.int 2)))))) mNil)))) mNil)))))
def F_law_kind : FD := fnD 2 1 .sh b_law_kind
def b_law_looks : MS := (sSeq (sIf (mB (mOp eqD (mV (mCall1 F_law_pick 1 0 (mCons (mC (.int 2)) mNil))) (mV (mC (.int 0))))) (sRet (mTup (mCons (mOp addD (mV (mC (.int 1))) (mV (mCall1 F_law_pick 1 0 (mCons (mC (.int 4)) mNil)))) (mCons (mCall1 F_law_pick 1 0 (mCons (mC (.int 5)) mNil)) mNil)))) sNx) (sRet (mTup (mCons (mOp addD (mV (mC (.int 1))) (mV (mCall1 F_law_pick 1 0 (mCons (mC (.int 8)) mNil)))) (mCons (mCall1 F_law_pick 1 0 (mCons (mC (.int 9)) mNil)) mNil)))))
def F_law_looks : FD := fnD 1 1 .sh b_law_looks
def b_law_great : MS := (sSeq (sSet 2 (mC (.int 1))) (sSeq (sFor (mR1 (mCons (mCall1 F_law_pick 1 0 (mCons (mOp addD (mV (mVar 1)) (mV (mC (.int 1)))) mNil)) mNil)) (gN 3) (sSet 2 (mOp mulI (mV (mVar 2)) (mV (mC (.int 10)))))) (sSeq (sSet 4 (mC (.int 0))) (sSeq (sFor (mR1 (mCons (mC (.int 5)) mNil)) (gN 3) (sSet 4 (mOp addD (mV (mOp mulI (mV (mVar 4)) (mV (mOp powI (mV (mC (.int 10))) (mV (mC (.int 12))))))) (mV (mCall1 F_law_pick 1 0 (mCons (mOp powI (mV (mC (.int 10))) (mV (mC (.int 12)))) mNil)))))) (sRet (mOp modI (mV (mVar 4)) (mV (mVar 2))))))))
def F_law_great : FD := fnD 5 2 .sh b_law_great
def b_law_point : MS := (sSeq (sSet 3 (mOp addD (mV (mB1 maxT (mConsB (mV (mVar 2)) mNilB))) (mV (mOp ixD (mV (mLst (mCons (mCall1 F_law_pick 1 0 (mCons (mC (.int 4)) mNil)) (mCons (mCall1 F_law_pick 1 0 (mCons (mC (.int 60)) mNil)) mNil)))) (mV (mCall1 F_law_pick 1 0 (mCons (mC (.int 2)) mNil))))))) (sSeq (sSet 4 (mOp shlI (mV (mC (.int 1))) (mV (mOp subI (mV (mVar 3)) (mV (mC (.int 1))))))) (sSeq (sSet 5 (mOp shlI (mV (mC (.int 1))) (mV (mOp subI (mV (mVar 3)) (mV (mOp ixD (mV (mVar 2)) (mV (mC (.int 0))))))))) (sSeq (sSet 6 (mOp addD (mV (mVar 4)) (mV (mOp ixD (mV (mLst (mCons (mOp modI (mV (mCall1 F_law_great 1 0 (mCons (mC (.int 30)) mNil))) (mV (mVar 4))) (mCons (mC (.int 0)) (mCons (mOp subI (mV (mVar 4)) (mV (mC (.int 1)))) mNil))))) (mV (mCall1 F_law_pick 1 0 (mCons (mC (.int 3)) mNil))))))) (sSeq (sIf (mB (mOp eqD (mV (mCall1 F_law_pick 1 0 (mCons (mC (.int 3)) mNil))) (mV (mC (.int 0))))) (sSet 6 (mB1 maxT (mConsB (mV (mVar 4)) (mConsB (mV (mB1 minD (mConsB (mV (mOp subI (mV (mOp mulI (mV (mC (.int 2))) (mV (mVar 4)))) (mV (mC (.int 1))))) (mConsB (mV (mOp subI (mV (mOp addD (mV (mOp mulI (mV (mOp divI (mV (mVar 6)) (mV (mVar 5)))) (mV (mVar 5)))) (mV (mCall1 F_law_pick 1 0 (mCons (mC (.int 3)) mNil))))) (mV (mC (.int 1))))) mNilB)))) mNilB)))) sNx) (sSeq (sSet 7 (mOp divI (mV (mOp mulI (mV (mOp mulI (mV (mOp ixD (mV (mVar 1)) (mV (mC (.int 0))))) (mV (mOp ixD (mV (mVar 1)) (mV (mC (.int 1))))))) (mV (mVar 6)))) (mV (mOp subI (mV (mOp ixD (mV (mVar 1)) (mV (mC (.int 0))))) (mV (mC (.int 1))))))) (sSeq (sSet 5 (mOp shlI (mV (mC (.int 1))) (mV (mOp subI (mV (mVar 3)) (mV (mOp ixD (mV (mVar 2)) (mV (mC (.int 1))))))))) (sSeq (sSet 8 (mOp ixD (mV (mLst (mCons (mOp modI (mV (mCall1 F_law_great 1 0 (mCons (mC (.int 30)) mNil))) (mV (mOp addD (mV (mVar 7)) (mV (mC (.int 1)))))) (mCons (mOp subI (mV (mVar 7)) (mV (mCall1 F_law_pick 1 0 (mCons (mC (.int 2)) mNil)))) (mCons (mCall1 F_law_pick 1 0 (mCons (mC (.int 4)) mNil)) mNil))))) (mV (mCall1 F_law_pick 1 0 (mCons (mC (.int 3)) mNil))))) (sSeq (sIf (mB (mOp eqD (mV (mCall1 F_law_pick 1 0 (mCons (mC (.int 2)) mNil))) (mV (mC (.int 0))))) (sSet 8 (mOp subI (mV (mOp addD (mV (mOp mulI (mV (mOp divI (mV (mVar 8)) (mV (mVar 5)))) (mV (mVar 5)))) (mV (mCall1 F_law_pick 1 0 (mCons (mC (.int 3)) mNil))))) (mV (mC (.int 1))))) sNx) (sRet (mTup (mCons (mVar 3) (mCons (mVar 6) (mCons (mOp mulI (mV (mB1 maxT (mConsB (mV (mC (.int 0))) (mConsB (mV (mB1 minD (mConsB (mV (mVar 7)) (mConsB (mV (mVar 8)) mNilB)))) mNilB)))) (mV (mOp ixD (mV (mLst (mCons (mC (.int 1)) (mCons (mUn negI (mV (mC (.int 1)))) mNil)))) (mV (mCall1 F_law_pick 1 0 (mCons (mC (.int 2)) mNil)))))) mNil))))))))))))))
def F_law_point : FD := fnD 9 3 .sh b_law_point
def b_cells_of : MS := (sSeq (sAsg (mVar 3) (gT 3 (gC (gN 6) (gC (gN 7) (gC (gN 8) gE))))) (sSeq (sSet 4 (mOp shrI (mV (mVar 7)) (mV (mOp subI (mV (mVar 6)) (mV (mOp ixD (mV (mVar 1)) (mV (mC (.int 0))))))))) (sSeq (sSet 5 (mOp shrI (mV (mVar 8)) (mV (mOp subI (mV (mVar 6)) (mV (mOp ixD (mV (mVar 1)) (mV (mC (.int 1))))))))) (sSeq (sIf (mB (mOp eqD (mV (mVar 2)) (mV (mC (.int 1))))) (sRet (mLst (mCons (mTup (mCons (mVar 4) (mCons (mVar 5) mNil))) mNil))) sNx) (sRet (mLst (mCons (mTup (mCons (mVar 4) (mCons (mVar 5) mNil))) (mCons (mTup (mCons (mVar 4) (mCons (mOp subI (mV (mVar 5)) (mV (mC (.int 1)))) mNil))) mNil))))))))
def F_cells_of : FD := fnD 9 4 .sh b_cells_of
def b_edges : MS := (sSeq (sAsg (mVar 0) (gT 2 (gC (gN 3) (gC (gN 4) gE)))) (sSeq (sAsg (mVar 2) (gT 2 (gC (gN 5) (gC (gN 6) gE)))) (sRet (mTup (mCons (mOp shlI (mV (mVar 5)) (mV (mVar 4))) (mCons (mOp shlI (mV (mOp addD (mV (mVar 5)) (mV (mC (.int 1))))) (mV (mVar 4))) (mCons (mOp shlI (mV (mVar 6)) (mV (mVar 3))) (mCons (mOp shlI (mV (mOp addD (mV (mVar 6)) (mV (mVar 1)))) (mV (mVar 3))) mNil))))))))
def F_edges : FD := fnD 7 3 .sh b_edges
def b_is_met : MS := (sSeq (sAsg (mVar 0) (gT 2 (gC (gN 5) (gC (gN 6) gE)))) (sSeq (sAsg (mCall F_edges 3 (mCons (mVar 1) (mCons (mVar 2) (mCons (mVar 3) mNil)))) (gT 4 (gC (gN 7) (gC (gN 8) (gC (gN 9) (gC (gN 10) gE)))))) (sSeq (sSet 4 (mOp mulI (mV (mOp mulI (mV (mVar 5)) (mV (mVar 6)))) (mV (mVar 8)))) (sSeq (sIf (mB (mOp gtI (mV (mVar 9)) (mV (mC (.int 0))))) (sRet (mOp ltI (mV (mOp mulI (mV (mOp subI (mV (mVar 5)) (mV (mC (.int 1))))) (mV (mVar 9)))) (mV (mVar 4)))) sNx) (sSeq (sIf (mB (mOp ltI (mV (mVar 10)) (mV (mC (.int 0))))) (sRet (mOp ltI (mV (mOp mulI (mV (mOp subI (mV (mVar 5)) (mV (mC (.int 1))))) (mV (mUn negI (mV (mVar 10)))))) (mV (mVar 4)))) sNx) (sRet (mC (.bool true))))))))
def F_is_met : FD := fnD 11 4 .sh b_is_met
def b_good_figures : MS := (sSeq (sAsg (mVar 0) (gT 2 (gC (gN 8) (gC (gN 9) gE)))) (sSeq (sIf (mNot (mB (mCall F_is_met 4 (mCons (mVar 0) (mCons (mVar 1) (mCons (mVar 2) (mCons (mVar 3) mNil))))))) (sRet (mLstRg (mRg2 (mUn negI (mV (mVar 9))) (mOp addD (mV (mVar 9)) (mV (mC (.int 1))))))) sNx) (sSeq (sAsg (mCall F_edges 3 (mCons (mVar 1) (mCons (mVar 2) (mCons (mVar 3) mNil)))) (gT 4 (gC (gN 10) (gC (gN 11) (gC (gN 12) (gC (gN 13) gE)))))) (sSeq (sSet 4 (mIf (mB (mOp gtI (mV (mVar 13)) (mV (mC (.int 0))))) (mVar 10) (mVar 11))) (sSeq (sSet 5 (mIf (mB (mOp ltI (mV (mVar 12)) (mV (mC (.int 0))))) (mVar 10) (mVar 11))) (sSeq (sSet 6 (mUn negI (mV (mOp divI (mV (mOp subI (mV (mOp mulI (mV (mVar 9)) (mV (mVar 4)))) (mV (mOp mulI (mV (mOp subI (mV (mVar 8)) (mV (mC (.int 1))))) (mV (mVar 13)))))) (mV (mOp mulI (mV (mOp subI (mV (mVar 8)) (mV (mC (.int 1))))) (mV (mVar 4)))))))) (sSeq (sSet 7 (mOp divI (mV (mOp addD (mV (mOp mulI (mV (mOp subI (mV (mVar 8)) (mV (mC (.int 1))))) (mV (mVar 12)))) (mV (mOp mulI (mV (mVar 9)) (mV (mVar 5)))))) (mV (mOp mulI (mV (mOp subI (mV (mVar 8)) (mV (mC (.int 1))))) (mV (mVar 5)))))) (sRet (mLstRg (mRg2 (mB1 maxT (mConsB (mV (mUn negI (mV (mVar 9)))) (mConsB (mV (mB1 minD (mConsB (mV (mVar 9)) (mConsB (mV (mVar 6)) mNilB)))) mNilB))) (mOp addD (mV (mB1 minD (mConsB (mV (mVar 9)) (mConsB (mV (mB1 maxT (mConsB (mV (mUn negI (mV (mVar 9)))) (mConsB (mV (mVar 7)) mNilB)))) mNilB)))) (mV (mC (.int 1))))))))))))))
def F_good_figures : FD := fnD 14 4 .sh b_good_figures
def b_least_reaching : MS := (sRet (mUn negI (mV (mOp divI (mV (mOp mulI (mV (mUn negI (mV (mOp subI (mV (mOp ixD (mV (mVar 0)) (mV (mC (.int 0))))) (mV (mC (.int 1))))))) (mV (mVar 1)))) (mV (mOp mulI (mV (mOp ixD (mV (mVar 0)) (mV (mC (.int 0))))) (mV (mOp ixD (mV (mVar 0)) (mV (mC (.int 1)))))))))))
def F_least_reaching : FD := fnD 2 2 .sh b_least_reaching
def b_edge_points : MS := (sSeq (sAsg (mVar 3) (gT 2 (gC (gN 11) (gC (gN 12) gE)))) (sSeq (sSet 5 (mOp shlI (mV (mVar 11)) (mV (mOp subI (mV (mVar 4)) (mV (mOp ixD (mV (mVar 1)) (mV (mC (.int 0))))))))) (sSeq (sSet 6 (mOp subI (mV (mOp shlI (mV (mOp addD (mV (mVar 11)) (mV (mC (.int 1))))) (mV (mOp subI (mV (mVar 4)) (mV (mOp ixD (mV (mVar 1)) (mV (mC (.int 0))))))))) (mV (mC (.int 1))))) (sSeq (sSet 7 (mOp shlI (mV (mVar 12)) (mV (mOp subI (mV (mVar 4)) (mV (mOp ixD (mV (mVar 1)) (mV (mC (.int 1))))))))) (sSeq (sSet 8 (mOp subI (mV (mOp shlI (mV (mOp addD (mV (mVar 12)) (mV (mVar 2)))) (mV (mOp subI (mV (mVar 4)) (mV (mOp ixD (mV (mVar 1)) (mV (mC (.int 1))))))))) (mV (mC (.int 1))))) (sSeq (sSet 9 (mLst mNil)) (sSeq (sFor (mIt (mTup (mCons (mVar 5) (mCons (mVar 6) (mCons (mCall F_least_reaching 2 (mCons (mVar 0) (mCons (mVar 7) mNil))) (mCons (mCall F_least_reaching 2 (mCons (mVar 0) (mCons (mUn negI (mV (mVar 8))) mNil))) mNil)))))) (gN 10) (sSeq (sSet 13 (mOp divI (mV (mOp mulI (mV (mOp mulI (mV (mOp ixD (mV (mVar 0)) (mV (mC (.int 0))))) (mV (mOp ixD (mV (mVar 0)) (mV (mC (.int 1))))))) (mV (mVar 10)))) (mV (mOp subI (mV (mOp ixD (mV (mVar 0)) (mV (mC (.int 0))))) (mV (mC (.int 1))))))) (sSeq (sSet 14 (mB1 maxT (mConsB (mV (mVar 7)) (mConsB (mV (mUn negI (mV (mVar 13)))) mNilB)))) (sSeq (sSet 15 (mB1 minD (mConsB (mV (mVar 8)) (mConsB (mV (mVar 13)) mNilB)))) (sIf (mAnd (mB (mChain leI leI (mVar 5) (mVar 10) (mVar 6))) (mB (mOp leI (mV (mVar 14)) (mV (mVar 15))))) (sExt 9 (mLst (mCons (mTup (mCons (mVar 4) (mCons (mVar 10) (mCons (mVar 14) mNil)))) (mCons (mTup (mCons (mVar 4) (mCons (mVar 10) (mCons (mVar 15) mNil)))) mNil)))) sNx))))) (sFrz 9 (sRet (mVar 9))))))))))
def F_edge_points : FD := fnD 16 5 .sh b_edge_points
def b_serves : MS := (sSeq (sAsg (mVar 2) (gT 3 (gC (gN 3) (gC (gN 4) (gC (gN 5) gE))))) (sRet (mOp leI (mV (mOp mulI (mV (mOp subI (mV (mOp ixD (mV (mVar 0)) (mV (mC (.int 0))))) (mV (mC (.int 1))))) (mV (mB1 absD (mConsB (mV (mOp subI (mV (mVar 5)) (mV (mOp mulI (mV (mVar 1)) (mV (mVar 4)))))) mNilB))))) (mV (mOp mulI (mV (mOp ixD (mV (mVar 0)) (mV (mC (.int 1))))) (mV (mVar 4)))))))
def F_serves : FD := fnD 6 3 .sh b_serves
noncomputable def b_spoiler : MS := (sSeq (sIf (mB (mOp inD (mV (mVar 4)) (mV (mCall F_good_figures 4 (mCons (mVar 0) (mCons (mVar 1) (mCons (mVar 2) (mCons (mVar 3) mNil)))))))) (sRet (mC .none)) sNx) (sSeq (sSet 5 (mB1 maxT (mConsB (mV (mVar 1)) mNilB))) (sWhile (mB (mC (.bool true))) (sSeq (sFor (mIt (mCall F_edge_points 5 (mCons (mVar 0) (mCons (mVar 1) (mCons (mVar 2) (mCons (mVar 3) (mCons (mVar 5) mNil))))))) (gN 6) (sIf (mNot (mB (mCall F_serves 3 (mCons (mVar 0) (mCons (mVar 4) (mCons (mVar 6) mNil)))))) (sRet (mVar 6)) sNx)) (sAug 5 addN (mC (.int 1)))))))
noncomputable def F_spoiler : FD := fnD 7 5 .sh b_spoiler
def b_both_served : MS := (sSeq (sFor (mR2 (mCons (mUn negI (mV (mOp ixD (mV (mVar 0)) (mV (mC (.int 1)))))) (mCons (mOp addD (mV (mOp ixD (mV (mVar 0)) (mV (mC (.int 1))))) (mV (mC (.int 1)))) mNil))) (gN 3) (sIf (mAnd (mB (mCall F_serves 3 (mCons (mVar 0) (mCons (mVar 3) (mCons (mVar 1) mNil))))) (mB (mCall F_serves 3 (mCons (mVar 0) (mCons (mVar 3) (mCons (mVar 2) mNil)))))) (sRet (mC (.bool true))) sNx)) (sRet (mC (.bool false))))
def F_both_served : FD := fnD 4 3 .sh b_both_served
noncomputable def b_two_points : MS := (sSeq (sIf (mOr (mNot (mB (mCall F_is_met 4 (mCons (mVar 0) (mCons (mVar 1) (mCons (mVar 2) (mCons (mVar 3) mNil))))))) (mB (mOp neD (mV (mCall F_good_figures 4 (mCons (mVar 0) (mCons (mVar 1) (mCons (mVar 2) (mCons (mVar 3) mNil)))))) (mV (mLst mNil))))) (sRet (mC .none)) sNx) (sSeq (sSet 4 (mB1 maxT (mConsB (mV (mVar 1)) mNilB))) (sWhile (mB (mC (.bool true))) (sSeq (sSet 5 (mCall F_edge_points 5 (mCons (mVar 0) (mCons (mVar 1) (mCons (mVar 2) (mCons (mVar 3) (mCons (mVar 4) mNil))))))) (sSeq (sFor (mEnum (mCons (mVar 5) mNil)) (gT 2 (gC (gN 6) (gC (gN 7) gE))) (sFor (mIt (mSl (mV (mVar 5)) mP0 (mP1 (mVar 6)))) (gN 8) (sIf (mNot (mB (mCall F_both_served 3 (mCons (mVar 0) (mCons (mVar 7) (mCons (mVar 8) mNil)))))) (sRet (mTup (mCons (mVar 8) (mCons (mVar 7) mNil)))) sNx))) (sAug 4 addN (mC (.int 1))))))))
noncomputable def F_two_points : FD := fnD 9 4 .sh b_two_points
noncomputable def b_law_right : MS := (sSeq (sAsg (mVar 3) (gT 3 (gC (gN 7) (gC (gN 8) (gC (gN 9) gE))))) (sSeq (sSet 4 (mOp divI (mV (mVar 8)) (mV (mOp shlI (mV (mC (.int 1))) (mV (mOp subI (mV (mVar 7)) (mV (mOp ixD (mV (mVar 1)) (mV (mC (.int 0))))))))))) (sSeq (sSet 5 (mOp divI (mV (mVar 9)) (mV (mOp shlI (mV (mC (.int 1))) (mV (mOp subI (mV (mVar 7)) (mV (mOp ixD (mV (mVar 1)) (mV (mC (.int 1))))))))))) (sSeq (sIf (mB (mOp neD (mV (mCall F_cells_of 4 (mCons (mVar 0) (mCons (mVar 1) (mCons (mVar 2) (mCons (mVar 3) mNil)))))) (mV (mSl (mV (mLst (mCons (mTup (mCons (mVar 4) (mCons (mVar 5) mNil))) (mCons (mTup (mCons (mVar 4) (mCons (mOp subI (mV (mVar 5)) (mV (mC (.int 1)))) mNil))) mNil)))) mP0 (mP1 (mVar 2)))))) (sRet (mC (.bool false))) sNx) (sSeq (sFor (mIt (mSl (mV (mLst (mCons (mTup (mCons (mVar 4) (mCons (mVar 5) mNil))) (mCons (mTup (mCons (mVar 4) (mCons (mOp subI (mV (mVar 5)) (mV (mC (.int 1)))) mNil))) mNil)))) mP0 (mP1 (mVar 2)))) (gN 6) (sSeq (sIf (mB (mOp notBl (mV (mCall F_is_met 4 (mCons (mVar 0) (mCons (mVar 1) (mCons (mVar 2) (mCons (mVar 6) mNil)))))) (mV (mC (.bool true))))) (sRet (mC (.bool false))) sNx) (sSeq (sSet 10 (mCall F_good_figures 4 (mCons (mVar 0) (mCons (mVar 1) (mCons (mVar 2) (mCons (mVar 6) mNil)))))) (sSeq (sFor (mIt (mVar 10)) (gN 11) (sSeq (sSet 12 (mOp subI (mV (mVar 9)) (mV (mOp mulI (mV (mVar 11)) (mV (mVar 8)))))) (sSeq (sIf (mOr (mB (mOp gtI (mV (mOp mulI (mV (mOp subI (mV (mOp ixD (mV (mVar 0)) (mV (mC (.int 0))))) (mV (mC (.int 1))))) (mV (mB1 maxT (mConsB (mV (mVar 12)) (mConsB (mV (mOp subI (mV (mC (.int 0))) (mV (mVar 12)))) mNilB)))))) (mV (mOp mulI (mV (mOp ixD (mV (mVar 0)) (mV (mC (.int 1))))) (mV (mVar 8)))))) (mNot (mB (mCall F_serves 3 (mCons (mVar 0) (mCons (mVar 11) (mCons (mVar 3) mNil))))))) (sRet (mC (.bool false))) sNx) (sIf (mB (mOp notN (mV (mCall F_spoiler 5 (mCons (mVar 0) (mCons (mVar 1) (mCons (mVar 2) (mCons (mVar 6) (mCons (mVar 11) mNil))))))) (mV (mC .none)))) (sRet (mC (.bool false))) sNx)))) (sIf (mB (mOp neD (mV (mOp isN (mV (mCall F_two_points 4 (mCons (mVar 0) (mCons (mVar 1) (mCons (mVar 2) (mCons (mVar 6) mNil)))))) (mV (mC .none)))) (mV (mOp neD (mV (mVar 10)) (mV (mLst mNil)))))) (sRet (mC (.bool false))) sNx))))) (sRet (mC (.bool true))))))))
noncomputable def F_law_right : FD := fnD 13 4 .sh b_law_right
noncomputable def b_law : MS := (sSeq (sSet 1 (mCall F_law_deck 2 (mCons (mOp ixD (mV (mOp addD (mV (mVar 0)) (mV (mLst (mCons (mC (.int 0)) mNil))))) (mV (mC (.int 0)))) (mCons (mC (.int 0)) mNil)))) (sSeq (sSet 2 (mCall1 F_law_kind 0 1 mNil)) (sSeq (sSet 3 (mCall1 F_law_looks 0 1 mNil)) (sSeq (sFor (mIt (mOp addD (mV (mSl (mV (mVar 0)) (mP1 (mC (.int 1))) (mP1 (mC (.int 13))))) (mV (mLst (mCons (mC (.int 0)) mNil))))) (gN 4) (sSeq (sSet 1 (mCall F_law_deck 2 (mCons (mVar 4) (mCons (mC (.int 90)) mNil)))) (sSeq (sSet 5 (mCall1 F_law_point 2 1 (mCons (mVar 2) (mCons (mVar 3) mNil)))) (sFor (mIt (mTup (mCons (mC (.int 1)) (mCons (mC (.int 2)) mNil)))) (gN 6) (sIf (mNot (mB (mCall F_law_right 4 (mCons (mVar 2) (mCons (mVar 3) (mCons (mVar 6) (mCons (mVar 5) mNil))))))) (sRet (mC (.bool false))) sNx))))) (sRet (mC (.bool true)))))))
noncomputable def F_law : FD := fnD 7 1 .sh b_law
/-! ### each def keeps its meaning -/
def bts : List Str := ["abs", "enumerate", "list", "max", "min", "range"]
section
variable {P : Program} {w : World} {K : Fg} {mg : Str → Option Value} {base : Heap}
theorem sc_law_deck : FnScope ["cell", "turn"] ["cell", "turn"] (defScope s_law_deck) := ⟨rfl, rfl, rfl, by decide +kernel, rfl, by decide +kernel, by decide +kernel⟩
theorem ok_law_deck {f : Addr} {fd : FuncData}  (F : FnP K "_law_deck" s_law_deck f fd) (hB : ∀ x ∈ bts, mg x = none)   : FnOk P w K mg base CX0 1 f fd ["cell", "turn"] (spD K F_law_deck [.sh, .sh] (.ls .sh)) := by
  show FnOk P w K mg base CX0 (0 + 1) f fd ["cell", "turn"] (spD K (fnD 2 2 (.ls .sh) b_law_deck) [.sh, .sh] (.ls .sh))
  refine fn_ok (k := 0) (ps := [.sh, .sh]) (rk := (.ls .sh)) (b := b_law_deck) (O1 := []) (N := ["cell", "turn"]) F sc_law_deck rfl (by decide) (fun cdv A outer s H E hr => ⟨_, (pss_cons (ps_if (pt_cmpR op_ge (pv 0) (pe_op op_pow pe_int pe_int) (nomark _)) (pss_one (ps_ret (pe_lst (pa_cons (pe_op op_sub (pv 0) (pe_op op_pow pe_int pe_int)) (pa_cons (pe_op op_mod (pv 0) pe_int) (pa_cons (pv 1) pa_nil)))))) pss_nil) (pss_one (ps_ret (pe_lst (pa_cons pe_int (pa_cons (pe_op op_mod (pv 0) pe_int) (pa_cons (pv 1) pa_nil))))))), fun c hps hrk => ?_⟩)
  show DC K c [] [.sh, .sh] _ b_law_deck _
  exact (c_cons (c_if (d_test (d_op g_ge (DE.b (d_var 0)) (DE.b (d_op g_pow (DE.b d_int) (DE.b d_int))))) (c_retO (o_lst (da_cons (d_op g_sub (DE.b (d_var 0)) (DE.b (d_op g_pow (DE.b d_int) (DE.b d_int)))) (da_cons (d_op g_mod (DE.b (d_var 0)) (DE.b d_int)) (da_cons (d_var 1) da_nil)))) hrk) c_nil) (c_retO (o_lst (da_cons d_int (da_cons (d_op g_mod (DE.b (d_var 0)) (DE.b d_int)) (da_cons (d_var 1) da_nil)))) hrk))
theorem sc_law_pick : FnScope ["deck", "many", "number", "found"] ["deck", "many"] (defScope s_law_pick) := ⟨rfl, rfl, rfl, by decide +kernel, rfl, by decide +kernel, by decide +kernel⟩
theorem ok_law_pick {f : Addr} {fd : FuncData}  (F : FnP K "_law_pick" s_law_pick f fd) (hB : ∀ x ∈ bts, mg x = none)   : FnOk P w K mg base CX0 1 f fd ["deck", "many"] (spD K F_law_pick [(.pm (.ls .sh)), .sh] .sh) := by
  show FnOk P w K mg base CX0 (0 + 1) f fd ["deck", "many"] (spD K (fnD 4 2 .sh b_law_pick) [(.pm (.ls .sh)), .sh] .sh)
  refine fn_ok (k := 0) (ps := [(.pm (.ls .sh)), .sh]) (rk := .sh) (b := b_law_pick) (O1 := []) (N := ["deck", "many", "number", "found"]) F sc_law_pick rfl (by decide) (fun cdv A outer s H E hr => ⟨_, (pss_cons (ps_if (pt_cmpR op_gt (pe_ix ix_seq (pv 0) pe_int (fun _ _ => rfl)) pe_int (nomark _)) (pss_cons (ps_set (i := 3) sc_law_pick.nd rfl (by first | exact Or.inl rfl | exact Or.inr rfl) (pe_op op_mod (pe_ix ix_seq (pv 0) pe_int (fun _ _ => rfl)) (pv 1))) (pss_cons (ps_asg (pe_op op_fdivW (pe_ix ix_seq (pv 0) pe_int (fun _ _ => rfl)) (pv 1)) (pg_sub (pv 0) pe_int set_list)) (pss_one (ps_ret (pv 3))))) pss_nil) (pss_cons (ps_asg (pe_op op_addU (pe_ix ix_seq (pv 0) pe_int (fun _ _ => rfl)) pe_int) (pg_sub (pv 0) pe_int set_list)) (pss_cons (ps_set (i := 2) sc_law_pick.nd rfl (by first | exact Or.inl rfl | exact Or.inr rfl) (pe_op op_mod (pe_op op_pow (pe_op op_addU (pe_ix ix_seq (pv 0) pe_int (fun _ _ => rfl)) (pe_op op_mulX pe_int (pe_ix ix_seq (pv 0) pe_int (fun _ _ => rfl)))) pe_int) pe_int)) (pss_cons (ps_set (i := 3) sc_law_pick.nd rfl (by first | exact Or.inl rfl | exact Or.inr rfl) (pe_op op_fdivW (pe_op op_mod (pe_op op_pow (pe_op op_addU (pv 2) (pe_op op_mulX pe_int (pe_ix ix_seq (pv 0) pe_int (fun _ _ => rfl)))) pe_int) pe_int) pe_int)) (pss_cons (ps_if (pt_cmpR op_gt (pv 1) pe_int (nomark _)) (pss_one (ps_ret (pe_op op_mod (pe_op op_addU (pe_op op_mulX (pv 3) pe_int) (pv 2)) (pv 1)))) pss_nil) (pss_one (ps_ret (pe_op op_mod (pv 3) (pv 1))))))))), fun c hps hrk => ?_⟩)
  show DC K c [] [(.pm (.ls .sh)), .sh, .sh, .sh] _ b_law_pick _
  exact (c_cons (c_if (d_test (d_op g_gt (DE.b (d_op g_ix (d_slot 0) (DE.b d_int))) (DE.b d_int))) (c_cons (c_set 3 (d_op g_mod (DE.b (d_op g_ix (d_slot 0) (DE.b d_int))) (DE.b (d_var 1)))) (c_cons (c_put 0 (d_op g_div (DE.b (d_op g_ix (d_slot 0) (DE.b d_int))) (DE.b (d_var 1))) d_int) (c_ret (d_var 3) hrk))) c_nil) (c_cons (c_put 0 (d_op g_add (DE.b (d_op g_ix (d_slot 0) (DE.b d_int))) (DE.b d_int)) d_int) (c_cons (c_set 2 (d_op g_mod (DE.b (d_op g_pow (DE.b (d_op g_add (DE.b (d_op g_ix (d_slot 0) (DE.b d_int))) (DE.b (d_op g_mul (DE.b d_int) (DE.b (d_op g_ix (d_slot 0) (DE.b d_int))))))) (DE.b d_int))) (DE.b d_int))) (c_cons (c_set 3 (d_op g_div (DE.b (d_op g_mod (DE.b (d_op g_pow (DE.b (d_op g_add (DE.b (d_var 2)) (DE.b (d_op g_mul (DE.b d_int) (DE.b (d_op g_ix (d_slot 0) (DE.b d_int))))))) (DE.b d_int))) (DE.b d_int))) (DE.b d_int))) (c_cons (c_if (d_test (d_op g_gt (DE.b (d_var 1)) (DE.b d_int))) (c_ret (d_op g_mod (DE.b (d_op g_add (DE.b (d_op g_mul (DE.b (d_var 3)) (DE.b d_int))) (DE.b (d_var 2)))) (DE.b (d_var 1))) hrk) c_nil) (c_ret (d_op g_mod (DE.b (d_var 3)) (DE.b (d_var 1))) hrk))))))
theorem sc_law_kind : FnScope ["deck", "base"] ["deck"] (defScope s_law_kind) := ⟨rfl, rfl, rfl, by decide +kernel, rfl, by decide +kernel, by decide +kernel⟩
theorem ok_law_kind {f : Addr} {fd : FuncData}  (F : FnP K "_law_kind" s_law_kind f fd) (hB : ∀ x ∈ bts, mg x = none)  (h_law_pick : Fk P w K mg base "_law_pick" 1 ["deck", "many"] (spD K F_law_pick [(.pm (.ls .sh)), .sh] .sh)) : FnOk P w K mg base CX0 2 f fd ["deck"] (spD K F_law_kind [(.pm (.ls .sh))] .sh) := by
  obtain ⟨_, _, G_law_pick, mg_law_pick, kp_law_pick, bi_law_pick⟩ := h_law_pick
  show FnOk P w K mg base CX0 (1 + 1) f fd ["deck"] (spD K (fnD 2 1 .sh b_law_kind) [(.pm (.ls .sh))] .sh)
  refine fn_ok (k := 1) (ps := [(.pm (.ls .sh))]) (rk := .sh) (b := b_law_kind) (O1 := []) (N := ["deck", "base"]) F sc_law_kind rfl (by decide) (fun cdv A outer s H E hr => ⟨_, (pss_cons (ps_set (i := 1) sc_law_kind.nd rfl (by first | exact Or.inl rfl | exact Or.inr rfl) (pe_ix ix_seq (pe_lst (pa_cons pe_int (pa_cons pe_int (pa_cons pe_int (pa_cons pe_int (pa_cons pe_int pa_nil)))))) (pe_call G_law_pick (hr.mono (by decide)) rfl mg_law_pick kp_law_pick bi_law_pick .nil pass0 (pa_cons (pv 0) (pa_cons pe_int pa_nil))) (fun _ _ => rfl))) (pss_one (ps_ret (pe_tup (pa_cons (pv 1) (pa_cons (pe_op op_addU (pe_op op_fdivW (pv 1) pe_int) (pe_call G_law_pick (hr.mono (by decide)) rfl mg_law_pick kp_law_pick bi_law_pick .nil pass0 (pa_cons (pv 0) (pa_cons (pe_op op_sub (pv 1) (pe_op op_fdivW (pv 1) pe_int)) pa_nil)))) pa_nil)))))), fun c hps hrk => ?_⟩)
  show DC K c [] [(.pm (.ls .sh)), .sh] _ b_law_kind _
  exact (c_cons (c_set 1 (d_op g_ix (DE.b (d_lst (da_cons d_int (da_cons d_int (da_cons d_int (da_cons d_int (da_cons d_int da_nil))))))) (DE.b (DO.sh (o_call1 0 (k := .ls .sh) (da_cons d_int da_nil) (.inr rfl)))))) (c_ret (d_tup (da_cons (d_var 1) (da_cons (d_op g_add (DE.b (d_op g_div (DE.b (d_var 1)) (DE.b d_int))) (DE.b (DO.sh (o_call1 0 (k := .ls .sh) (da_cons (d_op g_sub (DE.b (d_var 1)) (DE.b (d_op g_div (DE.b (d_var 1)) (DE.b d_int)))) da_nil) (.inr rfl))))) da_nil))) hrk))
theorem sc_law_looks : FnScope ["deck"] ["deck"] (defScope s_law_looks) := ⟨rfl, rfl, rfl, by decide +kernel, rfl, by decide +kernel, by decide +kernel⟩
theorem ok_law_looks {f : Addr} {fd : FuncData}  (F : FnP K "_law_looks" s_law_looks f fd) (hB : ∀ x ∈ bts, mg x = none)  (h_law_pick : Fk P w K mg base "_law_pick" 1 ["deck", "many"] (spD K F_law_pick [(.pm (.ls .sh)), .sh] .sh)) : FnOk P w K mg base CX0 2 f fd ["deck"] (spD K F_law_looks [(.pm (.ls .sh))] .sh) := by
  obtain ⟨_, _, G_law_pick, mg_law_pick, kp_law_pick, bi_law_pick⟩ := h_law_pick
  show FnOk P w K mg base CX0 (1 + 1) f fd ["deck"] (spD K (fnD 1 1 .sh b_law_looks) [(.pm (.ls .sh))] .sh)
  refine fn_ok (k := 1) (ps := [(.pm (.ls .sh))]) (rk := .sh) (b := b_law_looks) (O1 := []) (N := ["deck"]) F sc_law_looks rfl (by decide) (fun cdv A outer s H E hr => ⟨_, (pss_cons (ps_if (pt_cmpR (op_eqD hr.units) (pe_call G_law_pick (hr.mono (by decide)) rfl mg_law_pick kp_law_pick bi_law_pick .nil pass0 (pa_cons (pv 0) (pa_cons pe_int pa_nil))) pe_int (nomark _)) (pss_one (ps_ret (pe_tup (pa_cons (pe_op op_addU pe_int (pe_call G_law_pick (hr.mono (by decide)) rfl mg_law_pick kp_law_pick bi_law_pick .nil pass0 (pa_cons (pv 0) (pa_cons pe_int pa_nil)))) (pa_cons (pe_call G_law_pick (hr.mono (by decide)) rfl mg_law_pick kp_law_pick bi_law_pick .nil pass0 (pa_cons (pv 0) (pa_cons pe_int pa_nil))) pa_nil))))) pss_nil) (pss_one (ps_ret (pe_tup (pa_cons (pe_op op_addU pe_int (pe_call G_law_pick (hr.mono (by decide)) rfl mg_law_pick kp_law_pick bi_law_pick .nil pass0 (pa_cons (pv 0) (pa_cons pe_int pa_nil)))) (pa_cons (pe_call G_law_pick (hr.mono (by decide)) rfl mg_law_pick kp_law_pick bi_law_pick .nil pass0 (pa_cons (pv 0) (pa_cons pe_int pa_nil))) pa_nil)))))), fun c hps hrk => ?_⟩)
  show DC K c [] [(.pm (.ls .sh))] _ b_law_looks _
  exact (c_cons (c_if (d_test (d_op g_eq (DE.b (DO.sh (o_call1 0 (k := .ls .sh) (da_cons d_int da_nil) (.inr rfl)))) (DE.b d_int))) (c_ret (d_tup (da_cons (d_op g_add (DE.b d_int) (DE.b (DO.sh (o_call1 0 (k := .ls .sh) (da_cons d_int da_nil) (.inr rfl))))) (da_cons (DO.sh (o_call1 0 (k := .ls .sh) (da_cons d_int da_nil) (.inr rfl))) da_nil))) hrk) c_nil) (c_ret (d_tup (da_cons (d_op g_add (DE.b d_int) (DE.b (DO.sh (o_call1 0 (k := .ls .sh) (da_cons d_int da_nil) (.inr rfl))))) (da_cons (DO.sh (o_call1 0 (k := .ls .sh) (da_cons d_int da_nil) (.inr rfl))) da_nil))) hrk))
theorem sc_law_great : FnScope ["deck", "figures", "size", "turn", "found"] ["deck", "figures"] (defScope s_law_great) := ⟨rfl, rfl, rfl, by decide +kernel, rfl, by decide +kernel, by decide +kernel⟩
theorem ok_law_great {f : Addr} {fd : FuncData}  (F : FnP K "_law_great" s_law_great f fd) (hB : ∀ x ∈ bts, mg x = none)  (h_law_pick : Fk P w K mg base "_law_pick" 1 ["deck", "many"] (spD K F_law_pick [(.pm (.ls .sh)), .sh] .sh)) : FnOk P w K mg base CX0 2 f fd ["deck", "figures"] (spD K F_law_great [(.pm (.ls .sh)), .sh] .sh) := by
  obtain ⟨_, _, G_law_pick, mg_law_pick, kp_law_pick, bi_law_pick⟩ := h_law_pick
  show FnOk P w K mg base CX0 (1 + 1) f fd ["deck", "figures"] (spD K (fnD 5 2 .sh b_law_great) [(.pm (.ls .sh)), .sh] .sh)
  refine fn_ok (k := 1) (ps := [(.pm (.ls .sh)), .sh]) (rk := .sh) (b := b_law_great) (O1 := []) (N := ["deck", "figures", "size", "turn", "found"]) F sc_law_great rfl (by decide) (fun cdv A outer s H E hr => ⟨_, (pss_cons (ps_set (i := 2) sc_law_great.nd rfl (by first | exact Or.inl rfl | exact Or.inr rfl) pe_int) (pss_cons (ps_for PassesOwn.never rfl (pi_range1 rfl (hB "range" (by decide +kernel)) (pa_cons (pe_call G_law_pick (hr.mono (by decide)) rfl mg_law_pick kp_law_pick bi_law_pick .nil pass0 (pa_cons (pv 0) (pa_cons (pe_op op_addU (pv 1) pe_int) pa_nil))) pa_nil)) (pg_name (i := 3) sc_law_great.nd rfl (by first | exact Or.inl rfl | exact Or.inr rfl)) (pss_one (ps_set (i := 2) sc_law_great.nd rfl (by first | exact Or.inl rfl | exact Or.inr rfl) (pe_op op_mulX (pv 2) pe_int)))) (pss_cons (ps_set (i := 4) sc_law_great.nd rfl (by first | exact Or.inl rfl | exact Or.inr rfl) pe_int) (pss_cons (ps_for PassesOwn.never rfl (pi_range1 rfl (hB "range" (by decide +kernel)) (pa_cons pe_int pa_nil)) (pg_name (i := 3) sc_law_great.nd rfl (by first | exact Or.inl rfl | exact Or.inr rfl)) (pss_one (ps_set (i := 4) sc_law_great.nd rfl (by first | exact Or.inl rfl | exact Or.inr rfl) (pe_op op_addU (pe_op op_mulX (pv 4) (pe_op op_pow pe_int pe_int)) (pe_call G_law_pick (hr.mono (by decide)) rfl mg_law_pick kp_law_pick bi_law_pick .nil pass0 (pa_cons (pv 0) (pa_cons (pe_op op_pow pe_int pe_int) pa_nil))))))) (pss_one (ps_ret (pe_op op_mod (pv 4) (pv 2)))))))), fun c hps hrk => ?_⟩)
  show DC K c [] [(.pm (.ls .sh)), .sh, .sh, .sh, .sh] _ b_law_great _
  exact (c_cons (c_set 2 d_int) (c_cons (c_for (i_r1 (da_cons (DO.sh (o_call1 0 (k := .ls .sh) (da_cons (d_op g_add (DE.b (d_var 1)) (DE.b d_int)) da_nil) (.inr rfl))) da_nil)) (g_name 3) (c_set 2 (d_op g_mul (DE.b (d_var 2)) (DE.b d_int)))) (c_cons (c_set 4 d_int) (c_cons (c_for (i_r1 (da_cons d_int da_nil)) (g_name 3) (c_set 4 (d_op g_add (DE.b (d_op g_mul (DE.b (d_var 4)) (DE.b (d_op g_pow (DE.b d_int) (DE.b d_int))))) (DE.b (DO.sh (o_call1 0 (k := .ls .sh) (da_cons (d_op g_pow (DE.b d_int) (DE.b d_int)) da_nil) (.inr rfl))))))) (c_ret (d_op g_mod (DE.b (d_var 4)) (DE.b (d_var 2))) hrk)))))
theorem sc_law_point : FnScope ["deck", "kind", "looks", "wide", "size", "unit", "divisor", "reach", "rest"] ["deck", "kind", "looks"] (defScope s_law_point) := ⟨rfl, rfl, rfl, by decide +kernel, rfl, by decide +kernel, by decide +kernel⟩
theorem ok_law_point {f : Addr} {fd : FuncData}  (F : FnP K "_law_point" s_law_point f fd) (hB : ∀ x ∈ bts, mg x = none)  (h_law_pick : Fk P w K mg base "_law_pick" 1 ["deck", "many"] (spD K F_law_pick [(.pm (.ls .sh)), .sh] .sh)) (h_law_great : Fk P w K mg base "_law_great" 2 ["deck", "figures"] (spD K F_law_great [(.pm (.ls .sh)), .sh] .sh)) : FnOk P w K mg base CX0 3 f fd ["deck", "kind", "looks"] (spD K F_law_point [(.pm (.ls .sh)), .sh, .sh] .sh) := by
  obtain ⟨_, _, G_law_pick, mg_law_pick, kp_law_pick, bi_law_pick⟩ := h_law_pick
  obtain ⟨_, _, G_law_great, mg_law_great, kp_law_great, bi_law_great⟩ := h_law_great
  show FnOk P w K mg base CX0 (2 + 1) f fd ["deck", "kind", "looks"] (spD K (fnD 9 3 .sh b_law_point) [(.pm (.ls .sh)), .sh, .sh] .sh)
  refine fn_ok (k := 2) (ps := [(.pm (.ls .sh)), .sh, .sh]) (rk := .sh) (b := b_law_point) (O1 := []) (N := ["deck", "kind", "looks", "wide", "size", "unit", "divisor", "reach", "rest"]) F sc_law_point rfl (by decide) (fun cdv A outer s H E hr => ⟨_, (pss_cons (ps_set (i := 3) sc_law_point.nd rfl (by first | exact Or.inl rfl | exact Or.inr rfl) (pe_op op_addU (pe_callB (call_maxT rfl) rfl (hB "max" (by decide +kernel)) bt_max (pa_cons (pv 2) pa_nil)) (pe_ix ix_seq (pe_lst (pa_cons (pe_call G_law_pick (hr.mono (by decide)) rfl mg_law_pick kp_law_pick bi_law_pick .nil pass0 (pa_cons (pv 0) (pa_cons pe_int pa_nil))) (pa_cons (pe_call G_law_pick (hr.mono (by decide)) rfl mg_law_pick kp_law_pick bi_law_pick .nil pass0 (pa_cons (pv 0) (pa_cons pe_int pa_nil))) pa_nil))) (pe_call G_law_pick (hr.mono (by decide)) rfl mg_law_pick kp_law_pick bi_law_pick .nil pass0 (pa_cons (pv 0) (pa_cons pe_int pa_nil))) (fun _ _ => rfl)))) (pss_cons (ps_set (i := 4) sc_law_point.nd rfl (by first | exact Or.inl rfl | exact Or.inr rfl) (pe_op op_shlW pe_int (pe_op op_sub (pv 3) pe_int))) (pss_cons (ps_set (i := 5) sc_law_point.nd rfl (by first | exact Or.inl rfl | exact Or.inr rfl) (pe_op op_shlW pe_int (pe_op op_sub (pv 3) (pe_ix ix_seq (pv 2) pe_int (fun _ _ => rfl))))) (pss_cons (ps_set (i := 6) sc_law_point.nd rfl (by first | exact Or.inl rfl | exact Or.inr rfl) (pe_op op_addU (pv 4) (pe_ix ix_seq (pe_lst (pa_cons (pe_op op_mod (pe_call G_law_great (hr.mono (by decide)) rfl mg_law_great kp_law_great bi_law_great .nil pass0 (pa_cons (pv 0) (pa_cons pe_int pa_nil))) (pv 4)) (pa_cons pe_int (pa_cons (pe_op op_sub (pv 4) pe_int) pa_nil)))) (pe_call G_law_pick (hr.mono (by decide)) rfl mg_law_pick kp_law_pick bi_law_pick .nil pass0 (pa_cons (pv 0) (pa_cons pe_int pa_nil))) (fun _ _ => rfl)))) (pss_cons (ps_if (pt_cmpR (op_eqD hr.units) (pe_call G_law_pick (hr.mono (by decide)) rfl mg_law_pick kp_law_pick bi_law_pick .nil pass0 (pa_cons (pv 0) (pa_cons pe_int pa_nil))) pe_int (nomark _)) (pss_one (ps_set (i := 6) sc_law_point.nd rfl (by first | exact Or.inl rfl | exact Or.inr rfl) (pe_callB (call_maxT rfl) rfl (hB "max" (by decide +kernel)) bt_max (pa_cons (pv 4) (pa_cons (pe_callB (call_min2 rfl) rfl (hB "min" (by decide +kernel)) bt_min (pa_cons (pe_op op_sub (pe_op op_mulX pe_int (pv 4)) pe_int) (pa_cons (pe_op op_sub (pe_op op_addU (pe_op op_mulX (pe_op op_fdivW (pv 6) (pv 5)) (pv 5)) (pe_call G_law_pick (hr.mono (by decide)) rfl mg_law_pick kp_law_pick bi_law_pick .nil pass0 (pa_cons (pv 0) (pa_cons pe_int pa_nil)))) pe_int) pa_nil))) pa_nil))))) pss_nil) (pss_cons (ps_set (i := 7) sc_law_point.nd rfl (by first | exact Or.inl rfl | exact Or.inr rfl) (pe_op op_fdivW (pe_op op_mulX (pe_op op_mulX (pe_ix ix_seq (pv 1) pe_int (fun _ _ => rfl)) (pe_ix ix_seq (pv 1) pe_int (fun _ _ => rfl))) (pv 6)) (pe_op op_sub (pe_ix ix_seq (pv 1) pe_int (fun _ _ => rfl)) pe_int))) (pss_cons (ps_set (i := 5) sc_law_point.nd rfl (by first | exact Or.inl rfl | exact Or.inr rfl) (pe_op op_shlW pe_int (pe_op op_sub (pv 3) (pe_ix ix_seq (pv 2) pe_int (fun _ _ => rfl))))) (pss_cons (ps_set (i := 8) sc_law_point.nd rfl (by first | exact Or.inl rfl | exact Or.inr rfl) (pe_ix ix_seq (pe_lst (pa_cons (pe_op op_mod (pe_call G_law_great (hr.mono (by decide)) rfl mg_law_great kp_law_great bi_law_great .nil pass0 (pa_cons (pv 0) (pa_cons pe_int pa_nil))) (pe_op op_addU (pv 7) pe_int)) (pa_cons (pe_op op_sub (pv 7) (pe_call G_law_pick (hr.mono (by decide)) rfl mg_law_pick kp_law_pick bi_law_pick .nil pass0 (pa_cons (pv 0) (pa_cons pe_int pa_nil)))) (pa_cons (pe_call G_law_pick (hr.mono (by decide)) rfl mg_law_pick kp_law_pick bi_law_pick .nil pass0 (pa_cons (pv 0) (pa_cons pe_int pa_nil))) pa_nil)))) (pe_call G_law_pick (hr.mono (by decide)) rfl mg_law_pick kp_law_pick bi_law_pick .nil pass0 (pa_cons (pv 0) (pa_cons pe_int pa_nil))) (fun _ _ => rfl))) (pss_cons (ps_if (pt_cmpR (op_eqD hr.units) (pe_call G_law_pick (hr.mono (by decide)) rfl mg_law_pick kp_law_pick bi_law_pick .nil pass0 (pa_cons (pv 0) (pa_cons pe_int pa_nil))) pe_int (nomark _)) (pss_one (ps_set (i := 8) sc_law_point.nd rfl (by first | exact Or.inl rfl | exact Or.inr rfl) (pe_op op_sub (pe_op op_addU (pe_op op_mulX (pe_op op_fdivW (pv 8) (pv 5)) (pv 5)) (pe_call G_law_pick (hr.mono (by decide)) rfl mg_law_pick kp_law_pick bi_law_pick .nil pass0 (pa_cons (pv 0) (pa_cons pe_int pa_nil)))) pe_int))) pss_nil) (pss_one (ps_ret (pe_tup (pa_cons (pv 3) (pa_cons (pv 6) (pa_cons (pe_op op_mulX (pe_callB (call_maxT rfl) rfl (hB "max" (by decide +kernel)) bt_max (pa_cons pe_int (pa_cons (pe_callB (call_min2 rfl) rfl (hB "min" (by decide +kernel)) bt_min (pa_cons (pv 7) (pa_cons (pv 8) pa_nil))) pa_nil))) (pe_ix ix_seq (pe_lst (pa_cons pe_int (pa_cons (pe_un un_neg pe_int) pa_nil))) (pe_call G_law_pick (hr.mono (by decide)) rfl mg_law_pick kp_law_pick bi_law_pick .nil pass0 (pa_cons (pv 0) (pa_cons pe_int pa_nil))) (fun _ _ => rfl))) pa_nil))))))))))))))), fun c hps hrk => ?_⟩)
  show DC K c [] [(.pm (.ls .sh)), .sh, .sh, .sh, .sh, .sh, .sh, .sh, .sh] _ b_law_point _
  exact (c_cons (c_set 3 (d_op g_add (DE.b (d_cb g_maxT (dab_cons (DE.b (d_var 2)) dab_nil))) (DE.b (d_op g_ix (DE.b (d_lst (da_cons (DO.sh (o_call1 0 (k := .ls .sh) (da_cons d_int da_nil) (.inr rfl))) (da_cons (DO.sh (o_call1 0 (k := .ls .sh) (da_cons d_int da_nil) (.inr rfl))) da_nil)))) (DE.b (DO.sh (o_call1 0 (k := .ls .sh) (da_cons d_int da_nil) (.inr rfl)))))))) (c_cons (c_set 4 (d_op g_shl (DE.b d_int) (DE.b (d_op g_sub (DE.b (d_var 3)) (DE.b d_int))))) (c_cons (c_set 5 (d_op g_shl (DE.b d_int) (DE.b (d_op g_sub (DE.b (d_var 3)) (DE.b (d_op g_ix (DE.b (d_var 2)) (DE.b d_int))))))) (c_cons (c_set 6 (d_op g_add (DE.b (d_var 4)) (DE.b (d_op g_ix (DE.b (d_lst (da_cons (d_op g_mod (DE.b (DO.sh (o_call1 0 (k := .ls .sh) (da_cons d_int da_nil) (.inr rfl)))) (DE.b (d_var 4))) (da_cons d_int (da_cons (d_op g_sub (DE.b (d_var 4)) (DE.b d_int)) da_nil))))) (DE.b (DO.sh (o_call1 0 (k := .ls .sh) (da_cons d_int da_nil) (.inr rfl)))))))) (c_cons (c_if (d_test (d_op g_eq (DE.b (DO.sh (o_call1 0 (k := .ls .sh) (da_cons d_int da_nil) (.inr rfl)))) (DE.b d_int))) (c_set 6 (d_cb g_maxT (dab_cons (DE.b (d_var 4)) (dab_cons (DE.b (d_cb g_min (dab_cons (DE.b (d_op g_sub (DE.b (d_op g_mul (DE.b d_int) (DE.b (d_var 4)))) (DE.b d_int))) (dab_cons (DE.b (d_op g_sub (DE.b (d_op g_add (DE.b (d_op g_mul (DE.b (d_op g_div (DE.b (d_var 6)) (DE.b (d_var 5)))) (DE.b (d_var 5)))) (DE.b (DO.sh (o_call1 0 (k := .ls .sh) (da_cons d_int da_nil) (.inr rfl)))))) (DE.b d_int))) dab_nil)))) dab_nil)))) c_nil) (c_cons (c_set 7 (d_op g_div (DE.b (d_op g_mul (DE.b (d_op g_mul (DE.b (d_op g_ix (DE.b (d_var 1)) (DE.b d_int))) (DE.b (d_op g_ix (DE.b (d_var 1)) (DE.b d_int))))) (DE.b (d_var 6)))) (DE.b (d_op g_sub (DE.b (d_op g_ix (DE.b (d_var 1)) (DE.b d_int))) (DE.b d_int))))) (c_cons (c_set 5 (d_op g_shl (DE.b d_int) (DE.b (d_op g_sub (DE.b (d_var 3)) (DE.b (d_op g_ix (DE.b (d_var 2)) (DE.b d_int))))))) (c_cons (c_set 8 (d_op g_ix (DE.b (d_lst (da_cons (d_op g_mod (DE.b (DO.sh (o_call1 0 (k := .ls .sh) (da_cons d_int da_nil) (.inr rfl)))) (DE.b (d_op g_add (DE.b (d_var 7)) (DE.b d_int)))) (da_cons (d_op g_sub (DE.b (d_var 7)) (DE.b (DO.sh (o_call1 0 (k := .ls .sh) (da_cons d_int da_nil) (.inr rfl))))) (da_cons (DO.sh (o_call1 0 (k := .ls .sh) (da_cons d_int da_nil) (.inr rfl))) da_nil))))) (DE.b (DO.sh (o_call1 0 (k := .ls .sh) (da_cons d_int da_nil) (.inr rfl)))))) (c_cons (c_if (d_test (d_op g_eq (DE.b (DO.sh (o_call1 0 (k := .ls .sh) (da_cons d_int da_nil) (.inr rfl)))) (DE.b d_int))) (c_set 8 (d_op g_sub (DE.b (d_op g_add (DE.b (d_op g_mul (DE.b (d_op g_div (DE.b (d_var 8)) (DE.b (d_var 5)))) (DE.b (d_var 5)))) (DE.b (DO.sh (o_call1 0 (k := .ls .sh) (da_cons d_int da_nil) (.inr rfl)))))) (DE.b d_int))) c_nil) (c_ret (d_tup (da_cons (d_var 3) (da_cons (d_var 6) (da_cons (d_op g_mul (DE.b (d_cb g_maxT (dab_cons (DE.b d_int) (dab_cons (DE.b (d_cb g_min (dab_cons (DE.b (d_var 7)) (dab_cons (DE.b (d_var 8)) dab_nil)))) dab_nil)))) (DE.b (d_op g_ix (DE.b (d_lst (da_cons d_int (da_cons (d_un g_neg (DE.b d_int)) da_nil)))) (DE.b (DO.sh (o_call1 0 (k := .ls .sh) (da_cons d_int da_nil) (.inr rfl))))))) da_nil)))) hrk))))))))))
theorem sc_cells_of : FnScope ["kind", "looks", "sight", "point", "top", "look", "wide", "divisor", "rest"] ["kind", "looks", "sight", "point"] (defScope s_cells_of) := ⟨rfl, rfl, rfl, by decide +kernel, rfl, by decide +kernel, by decide +kernel⟩
theorem ok_cells_of {f : Addr} {fd : FuncData}  (F : FnP K "cells_of" s_cells_of f fd) (hB : ∀ x ∈ bts, mg x = none)   : FnOk P w K mg base CX0 1 f fd ["kind", "looks", "sight", "point"] (spD K F_cells_of [.sh, .sh, .sh, .sh] .sh) := by
  show FnOk P w K mg base CX0 (0 + 1) f fd ["kind", "looks", "sight", "point"] (spD K (fnD 9 4 .sh b_cells_of) [.sh, .sh, .sh, .sh] .sh)
  refine fn_ok (k := 0) (ps := [.sh, .sh, .sh, .sh]) (rk := .sh) (b := b_cells_of) (O1 := []) (N := ["kind", "looks", "sight", "point", "top", "look", "wide", "divisor", "rest"]) F sc_cells_of rfl (by decide) (fun cdv A outer s H E hr => ⟨_, (pss_cons (ps_asg (pv 3) (pg_tup rfl (pgs_cons (pg_name (i := 6) sc_cells_of.nd rfl (by first | exact Or.inl rfl | exact Or.inr rfl)) (pgs_cons (pg_name (i := 7) sc_cells_of.nd rfl (by first | exact Or.inl rfl | exact Or.inr rfl)) (pgs_cons (pg_name (i := 8) sc_cells_of.nd rfl (by first | exact Or.inl rfl | exact Or.inr rfl)) pgs_nil))))) (pss_cons (ps_set (i := 4) sc_cells_of.nd rfl (by first | exact Or.inl rfl | exact Or.inr rfl) (pe_op op_shr (pv 7) (pe_op op_sub (pv 6) (pe_ix ix_seq (pv 1) pe_int (fun _ _ => rfl))))) (pss_cons (ps_set (i := 5) sc_cells_of.nd rfl (by first | exact Or.inl rfl | exact Or.inr rfl) (pe_op op_shr (pv 8) (pe_op op_sub (pv 6) (pe_ix ix_seq (pv 1) pe_int (fun _ _ => rfl))))) (pss_cons (ps_if (pt_cmpR (op_eqD hr.units) (pv 2) pe_int (nomark _)) (pss_one (ps_ret (pe_lst (pa_cons (pe_tup (pa_cons (pv 4) (pa_cons (pv 5) pa_nil))) pa_nil)))) pss_nil) (pss_one (ps_ret (pe_lst (pa_cons (pe_tup (pa_cons (pv 4) (pa_cons (pv 5) pa_nil))) (pa_cons (pe_tup (pa_cons (pv 4) (pa_cons (pe_op op_sub (pv 5) pe_int) pa_nil))) pa_nil))))))))), fun c hps hrk => ?_⟩)
  show DC K c [] [.sh, .sh, .sh, .sh, .sh, .sh, .sh, .sh, .sh] _ b_cells_of _
  exact (c_cons (c_asg (d_var 3) (g_tup (gs_cons (g_name 6) (gs_cons (g_name 7) (gs_cons (g_name 8) gs_nil))))) (c_cons (c_set 4 (d_op g_shr (DE.b (d_var 7)) (DE.b (d_op g_sub (DE.b (d_var 6)) (DE.b (d_op g_ix (DE.b (d_var 1)) (DE.b d_int))))))) (c_cons (c_set 5 (d_op g_shr (DE.b (d_var 8)) (DE.b (d_op g_sub (DE.b (d_var 6)) (DE.b (d_op g_ix (DE.b (d_var 1)) (DE.b d_int))))))) (c_cons (c_if (d_test (d_op g_eq (DE.b (d_var 2)) (DE.b d_int))) (c_ret (d_lst (da_cons (d_tup (da_cons (d_var 4) (da_cons (d_var 5) da_nil))) da_nil)) hrk) c_nil) (c_ret (d_lst (da_cons (d_tup (da_cons (d_var 4) (da_cons (d_var 5) da_nil))) (da_cons (d_tup (da_cons (d_var 4) (da_cons (d_op g_sub (DE.b (d_var 5)) (DE.b d_int)) da_nil))) da_nil))) hrk)))))
theorem sc_edges : FnScope ["looks", "sight", "cell", "tops", "parts", "top", "look"] ["looks", "sight", "cell"] (defScope s_edges) := ⟨rfl, rfl, rfl, by decide +kernel, rfl, by decide +kernel, by decide +kernel⟩
theorem ok_edges {f : Addr} {fd : FuncData}  (F : FnP K "edges" s_edges f fd) (hB : ∀ x ∈ bts, mg x = none)   : FnOk P w K mg base CX0 1 f fd ["looks", "sight", "cell"] (spD K F_edges [.sh, .sh, .sh] .sh) := by
  show FnOk P w K mg base CX0 (0 + 1) f fd ["looks", "sight", "cell"] (spD K (fnD 7 3 .sh b_edges) [.sh, .sh, .sh] .sh)
  refine fn_ok (k := 0) (ps := [.sh, .sh, .sh]) (rk := .sh) (b := b_edges) (O1 := []) (N := ["looks", "sight", "cell", "tops", "parts", "top", "look"]) F sc_edges rfl (by decide) (fun cdv A outer s H E hr => ⟨_, (pss_cons (ps_asg (pv 0) (pg_tup rfl (pgs_cons (pg_name (i := 3) sc_edges.nd rfl (by first | exact Or.inl rfl | exact Or.inr rfl)) (pgs_cons (pg_name (i := 4) sc_edges.nd rfl (by first | exact Or.inl rfl | exact Or.inr rfl)) pgs_nil)))) (pss_cons (ps_asg (pv 2) (pg_tup rfl (pgs_cons (pg_name (i := 5) sc_edges.nd rfl (by first | exact Or.inl rfl | exact Or.inr rfl)) (pgs_cons (pg_name (i := 6) sc_edges.nd rfl (by first | exact Or.inl rfl | exact Or.inr rfl)) pgs_nil)))) (pss_one (ps_ret (pe_tup (pa_cons (pe_op op_shlW (pv 5) (pv 4)) (pa_cons (pe_op op_shlW (pe_op op_addU (pv 5) pe_int) (pv 4)) (pa_cons (pe_op op_shlW (pv 6) (pv 3)) (pa_cons (pe_op op_shlW (pe_op op_addU (pv 6) (pv 1)) (pv 3)) pa_nil))))))))), fun c hps hrk => ?_⟩)
  show DC K c [] [.sh, .sh, .sh, .sh, .sh, .sh, .sh] _ b_edges _
  exact (c_cons (c_asg (d_var 0) (g_tup (gs_cons (g_name 3) (gs_cons (g_name 4) gs_nil)))) (c_cons (c_asg (d_var 2) (g_tup (gs_cons (g_name 5) (gs_cons (g_name 6) gs_nil)))) (c_ret (d_tup (da_cons (d_op g_shl (DE.b (d_var 5)) (DE.b (d_var 4))) (da_cons (d_op g_shl (DE.b (d_op g_add (DE.b (d_var 5)) (DE.b d_int))) (DE.b (d_var 4))) (da_cons (d_op g_shl (DE.b (d_var 6)) (DE.b (d_var 3))) (da_cons (d_op g_shl (DE.b (d_op g_add (DE.b (d_var 6)) (DE.b (d_var 1)))) (DE.b (d_var 3))) da_nil))))) hrk)))
theorem sc_is_met : FnScope ["kind", "looks", "sight", "cell", "reach", "base", "most", "left", "right", "low", "high"] ["kind", "looks", "sight", "cell"] (defScope s_is_met) := ⟨rfl, rfl, rfl, by decide +kernel, rfl, by decide +kernel, by decide +kernel⟩
theorem ok_is_met {f : Addr} {fd : FuncData}  (F : FnP K "is_met" s_is_met f fd) (hB : ∀ x ∈ bts, mg x = none)  (h_edges : Fk P w K mg base "edges" 1 ["looks", "sight", "cell"] (spD K F_edges [.sh, .sh, .sh] .sh)) : FnOk P w K mg base CX0 2 f fd ["kind", "looks", "sight", "cell"] (spD K F_is_met [.sh, .sh, .sh, .sh] .sh) := by
  obtain ⟨_, _, G_edges, mg_edges, kp_edges, bi_edges⟩ := h_edges
  show FnOk P w K mg base CX0 (1 + 1) f fd ["kind", "looks", "sight", "cell"] (spD K (fnD 11 4 .sh b_is_met) [.sh, .sh, .sh, .sh] .sh)
  refine fn_ok (k := 1) (ps := [.sh, .sh, .sh, .sh]) (rk := .sh) (b := b_is_met) (O1 := []) (N := ["kind", "looks", "sight", "cell", "reach", "base", "most", "left", "right", "low", "high"]) F sc_is_met rfl (by decide) (fun cdv A outer s H E hr => ⟨_, (pss_cons (ps_asg (pv 0) (pg_tup rfl (pgs_cons (pg_name (i := 5) sc_is_met.nd rfl (by first | exact Or.inl rfl | exact Or.inr rfl)) (pgs_cons (pg_name (i := 6) sc_is_met.nd rfl (by first | exact Or.inl rfl | exact Or.inr rfl)) pgs_nil)))) (pss_cons (ps_asg (pe_call G_edges (hr.mono (by decide)) rfl mg_edges kp_edges bi_edges .nil pass0 (pa_cons (pv 1) (pa_cons (pv 2) (pa_cons (pv 3) pa_nil)))) (pg_tup rfl (pgs_cons (pg_name (i := 7) sc_is_met.nd rfl (by first | exact Or.inl rfl | exact Or.inr rfl)) (pgs_cons (pg_name (i := 8) sc_is_met.nd rfl (by first | exact Or.inl rfl | exact Or.inr rfl)) (pgs_cons (pg_name (i := 9) sc_is_met.nd rfl (by first | exact Or.inl rfl | exact Or.inr rfl)) (pgs_cons (pg_name (i := 10) sc_is_met.nd rfl (by first | exact Or.inl rfl | exact Or.inr rfl)) pgs_nil)))))) (pss_cons (ps_set (i := 4) sc_is_met.nd rfl (by first | exact Or.inl rfl | exact Or.inr rfl) (pe_op op_mulX (pe_op op_mulX (pv 5) (pv 6)) (pv 8))) (pss_cons (ps_if (pt_cmpR op_gt (pv 9) pe_int (nomark _)) (pss_one (ps_ret (pe_cmpR op_lt (pe_op op_mulX (pe_op op_sub (pv 5) pe_int) (pv 9)) (pv 4) (nomark _)))) pss_nil) (pss_cons (ps_if (pt_cmpR op_lt (pv 10) pe_int (nomark _)) (pss_one (ps_ret (pe_cmpR op_lt (pe_op op_mulX (pe_op op_sub (pv 5) pe_int) (pe_un un_neg (pv 10))) (pv 4) (nomark _)))) pss_nil) (pss_one (ps_ret pe_bl))))))), fun c hps hrk => ?_⟩)
  show DC K c [] [.sh, .sh, .sh, .sh, .sh, .sh, .sh, .sh, .sh, .sh, .sh] _ b_is_met _
  exact (c_cons (c_asg (d_var 0) (g_tup (gs_cons (g_name 5) (gs_cons (g_name 6) gs_nil)))) (c_cons (c_asg (DO.sh (o_call (da_cons (d_var 1) (da_cons (d_var 2) (da_cons (d_var 3) da_nil))))) (g_tup (gs_cons (g_name 7) (gs_cons (g_name 8) (gs_cons (g_name 9) (gs_cons (g_name 10) gs_nil)))))) (c_cons (c_set 4 (d_op g_mul (DE.b (d_op g_mul (DE.b (d_var 5)) (DE.b (d_var 6)))) (DE.b (d_var 8)))) (c_cons (c_if (d_test (d_op g_gt (DE.b (d_var 9)) (DE.b d_int))) (c_ret (d_op g_lt (DE.b (d_op g_mul (DE.b (d_op g_sub (DE.b (d_var 5)) (DE.b d_int))) (DE.b (d_var 9)))) (DE.b (d_var 4))) hrk) c_nil) (c_cons (c_if (d_test (d_op g_lt (DE.b (d_var 10)) (DE.b d_int))) (c_ret (d_op g_lt (DE.b (d_op g_mul (DE.b (d_op g_sub (DE.b (d_var 5)) (DE.b d_int))) (DE.b (d_un g_neg (DE.b (d_var 10)))))) (DE.b (d_var 4))) hrk) c_nil) (c_ret d_bl hrk))))))
theorem sc_good_figures : FnScope ["kind", "looks", "sight", "cell", "steep", "flat", "least", "greatest", "base", "most", "left", "right", "low", "high"] ["kind", "looks", "sight", "cell"] (defScope s_good_figures) := ⟨rfl, rfl, rfl, by decide +kernel, rfl, by decide +kernel, by decide +kernel⟩
theorem ok_good_figures {f : Addr} {fd : FuncData}  (F : FnP K "good_figures" s_good_figures f fd) (hB : ∀ x ∈ bts, mg x = none)  (h_is_met : Fk P w K mg base "is_met" 2 ["kind", "looks", "sight", "cell"] (spD K F_is_met [.sh, .sh, .sh, .sh] .sh)) (h_edges : Fk P w K mg base "edges" 1 ["looks", "sight", "cell"] (spD K F_edges [.sh, .sh, .sh] .sh)) : FnOk P w K mg base CX0 3 f fd ["kind", "looks", "sight", "cell"] (spD K F_good_figures [.sh, .sh, .sh, .sh] .sh) := by
  obtain ⟨_, _, G_is_met, mg_is_met, kp_is_met, bi_is_met⟩ := h_is_met
  obtain ⟨_, _, G_edges, mg_edges, kp_edges, bi_edges⟩ := h_edges
  show FnOk P w K mg base CX0 (2 + 1) f fd ["kind", "looks", "sight", "cell"] (spD K (fnD 14 4 .sh b_good_figures) [.sh, .sh, .sh, .sh] .sh)
  refine fn_ok (k := 2) (ps := [.sh, .sh, .sh, .sh]) (rk := .sh) (b := b_good_figures) (O1 := []) (N := ["kind", "looks", "sight", "cell", "steep", "flat", "least", "greatest", "base", "most", "left", "right", "low", "high"]) F sc_good_figures rfl (by decide) (fun cdv A outer s H E hr => ⟨_, (pss_cons (ps_asg (pv 0) (pg_tup rfl (pgs_cons (pg_name (i := 8) sc_good_figures.nd rfl (by first | exact Or.inl rfl | exact Or.inr rfl)) (pgs_cons (pg_name (i := 9) sc_good_figures.nd rfl (by first | exact Or.inl rfl | exact Or.inr rfl)) pgs_nil)))) (pss_cons (ps_if (pt_not (pt_val (pe_call G_is_met (hr.mono (by decide)) rfl mg_is_met kp_is_met bi_is_met .nil pass0 (pa_cons (pv 0) (pa_cons (pv 1) (pa_cons (pv 2) (pa_cons (pv 3) pa_nil))))))) (pss_one (ps_ret (pe_listRg rfl rfl (hB "list" (by decide +kernel)) (prg_2 rfl (hB "range" (by decide +kernel)) (pe_un un_neg (pv 9)) (pe_op op_addU (pv 9) pe_int))))) pss_nil) (pss_cons (ps_asg (pe_call G_edges (hr.mono (by decide)) rfl mg_edges kp_edges bi_edges .nil pass0 (pa_cons (pv 1) (pa_cons (pv 2) (pa_cons (pv 3) pa_nil)))) (pg_tup rfl (pgs_cons (pg_name (i := 10) sc_good_figures.nd rfl (by first | exact Or.inl rfl | exact Or.inr rfl)) (pgs_cons (pg_name (i := 11) sc_good_figures.nd rfl (by first | exact Or.inl rfl | exact Or.inr rfl)) (pgs_cons (pg_name (i := 12) sc_good_figures.nd rfl (by first | exact Or.inl rfl | exact Or.inr rfl)) (pgs_cons (pg_name (i := 13) sc_good_figures.nd rfl (by first | exact Or.inl rfl | exact Or.inr rfl)) pgs_nil)))))) (pss_cons (ps_set (i := 4) sc_good_figures.nd rfl (by first | exact Or.inl rfl | exact Or.inr rfl) (pe_ifExp (pt_cmpR op_gt (pv 13) pe_int (nomark _)) (pv 10) (pv 11))) (pss_cons (ps_set (i := 5) sc_good_figures.nd rfl (by first | exact Or.inl rfl | exact Or.inr rfl) (pe_ifExp (pt_cmpR op_lt (pv 12) pe_int (nomark _)) (pv 10) (pv 11))) (pss_cons (ps_set (i := 6) sc_good_figures.nd rfl (by first | exact Or.inl rfl | exact Or.inr rfl) (pe_un un_neg (pe_op op_fdivW (pe_op op_sub (pe_op op_mulX (pv 9) (pv 4)) (pe_op op_mulX (pe_op op_sub (pv 8) pe_int) (pv 13))) (pe_op op_mulX (pe_op op_sub (pv 8) pe_int) (pv 4))))) (pss_cons (ps_set (i := 7) sc_good_figures.nd rfl (by first | exact Or.inl rfl | exact Or.inr rfl) (pe_op op_fdivW (pe_op op_addU (pe_op op_mulX (pe_op op_sub (pv 8) pe_int) (pv 12)) (pe_op op_mulX (pv 9) (pv 5))) (pe_op op_mulX (pe_op op_sub (pv 8) pe_int) (pv 5)))) (pss_one (ps_ret (pe_listRg rfl rfl (hB "list" (by decide +kernel)) (prg_2 rfl (hB "range" (by decide +kernel)) (pe_callB (call_maxT rfl) rfl (hB "max" (by decide +kernel)) bt_max (pa_cons (pe_un un_neg (pv 9)) (pa_cons (pe_callB (call_min2 rfl) rfl (hB "min" (by decide +kernel)) bt_min (pa_cons (pv 9) (pa_cons (pv 6) pa_nil))) pa_nil))) (pe_op op_addU (pe_callB (call_min2 rfl) rfl (hB "min" (by decide +kernel)) bt_min (pa_cons (pv 9) (pa_cons (pe_callB (call_maxT rfl) rfl (hB "max" (by decide +kernel)) bt_max (pa_cons (pe_un un_neg (pv 9)) (pa_cons (pv 7) pa_nil))) pa_nil))) pe_int)))))))))))), fun c hps hrk => ?_⟩)
  show DC K c [] [.sh, .sh, .sh, .sh, .sh, .sh, .sh, .sh, .sh, .sh, .sh, .sh, .sh, .sh] _ b_good_figures _
  exact (c_cons (c_asg (d_var 0) (g_tup (gs_cons (g_name 8) (gs_cons (g_name 9) gs_nil)))) (c_cons (c_if (d_not (d_tB (DO.sh (o_call (da_cons (d_var 0) (da_cons (d_var 1) (da_cons (d_var 2) (da_cons (d_var 3) da_nil)))))))) (c_ret (DO.e (o_lstRg (rg_2 (d_un g_neg (DE.b (d_var 9))) (d_op g_add (DE.b (d_var 9)) (DE.b d_int))))) hrk) c_nil) (c_cons (c_asg (DO.sh (o_call (da_cons (d_var 1) (da_cons (d_var 2) (da_cons (d_var 3) da_nil))))) (g_tup (gs_cons (g_name 10) (gs_cons (g_name 11) (gs_cons (g_name 12) (gs_cons (g_name 13) gs_nil)))))) (c_cons (c_set 4 (d_ifE (d_test (d_op g_gt (DE.b (d_var 13)) (DE.b d_int))) (d_var 10) (d_var 11))) (c_cons (c_set 5 (d_ifE (d_test (d_op g_lt (DE.b (d_var 12)) (DE.b d_int))) (d_var 10) (d_var 11))) (c_cons (c_set 6 (d_un g_neg (DE.b (d_op g_div (DE.b (d_op g_sub (DE.b (d_op g_mul (DE.b (d_var 9)) (DE.b (d_var 4)))) (DE.b (d_op g_mul (DE.b (d_op g_sub (DE.b (d_var 8)) (DE.b d_int))) (DE.b (d_var 13)))))) (DE.b (d_op g_mul (DE.b (d_op g_sub (DE.b (d_var 8)) (DE.b d_int))) (DE.b (d_var 4)))))))) (c_cons (c_set 7 (d_op g_div (DE.b (d_op g_add (DE.b (d_op g_mul (DE.b (d_op g_sub (DE.b (d_var 8)) (DE.b d_int))) (DE.b (d_var 12)))) (DE.b (d_op g_mul (DE.b (d_var 9)) (DE.b (d_var 5)))))) (DE.b (d_op g_mul (DE.b (d_op g_sub (DE.b (d_var 8)) (DE.b d_int))) (DE.b (d_var 5)))))) (c_ret (DO.e (o_lstRg (rg_2 (d_cb g_maxT (dab_cons (DE.b (d_un g_neg (DE.b (d_var 9)))) (dab_cons (DE.b (d_cb g_min (dab_cons (DE.b (d_var 9)) (dab_cons (DE.b (d_var 6)) dab_nil)))) dab_nil))) (d_op g_add (DE.b (d_cb g_min (dab_cons (DE.b (d_var 9)) (dab_cons (DE.b (d_cb g_maxT (dab_cons (DE.b (d_un g_neg (DE.b (d_var 9)))) (dab_cons (DE.b (d_var 7)) dab_nil)))) dab_nil)))) (DE.b d_int))))) hrk))))))))
theorem sc_least_reaching : FnScope ["kind", "rest"] ["kind", "rest"] (defScope s_least_reaching) := ⟨rfl, rfl, rfl, by decide +kernel, rfl, by decide +kernel, by decide +kernel⟩
theorem ok_least_reaching {f : Addr} {fd : FuncData}  (F : FnP K "least_reaching" s_least_reaching f fd) (hB : ∀ x ∈ bts, mg x = none)   : FnOk P w K mg base CX0 1 f fd ["kind", "rest"] (spD K F_least_reaching [.sh, .sh] .sh) := by
  show FnOk P w K mg base CX0 (0 + 1) f fd ["kind", "rest"] (spD K (fnD 2 2 .sh b_least_reaching) [.sh, .sh] .sh)
  refine fn_ok (k := 0) (ps := [.sh, .sh]) (rk := .sh) (b := b_least_reaching) (O1 := []) (N := ["kind", "rest"]) F sc_least_reaching rfl (by decide) (fun cdv A outer s H E hr => ⟨_, (pss_one (ps_ret (pe_un un_neg (pe_op op_fdivW (pe_op op_mulX (pe_un un_neg (pe_op op_sub (pe_ix ix_seq (pv 0) pe_int (fun _ _ => rfl)) pe_int)) (pv 1)) (pe_op op_mulX (pe_ix ix_seq (pv 0) pe_int (fun _ _ => rfl)) (pe_ix ix_seq (pv 0) pe_int (fun _ _ => rfl))))))), fun c hps hrk => ?_⟩)
  show DC K c [] [.sh, .sh] _ b_least_reaching _
  exact (c_ret (d_un g_neg (DE.b (d_op g_div (DE.b (d_op g_mul (DE.b (d_un g_neg (DE.b (d_op g_sub (DE.b (d_op g_ix (DE.b (d_var 0)) (DE.b d_int))) (DE.b d_int))))) (DE.b (d_var 1)))) (DE.b (d_op g_mul (DE.b (d_op g_ix (DE.b (d_var 0)) (DE.b d_int))) (DE.b (d_op g_ix (DE.b (d_var 0)) (DE.b d_int)))))))) hrk)
theorem sc_edge_points : FnScope ["kind", "looks", "sight", "cell", "wide", "first", "last", "low", "high", "found", "divisor", "top", "look", "reach", "bottom", "peak"] ["kind", "looks", "sight", "cell", "wide"] (defScope s_edge_points) := ⟨rfl, rfl, rfl, by decide +kernel, rfl, by decide +kernel, by decide +kernel⟩
theorem ok_edge_points {f : Addr} {fd : FuncData}  (F : FnP K "edge_points" s_edge_points f fd) (hB : ∀ x ∈ bts, mg x = none)  (h_least_reaching : Fk P w K mg base "least_reaching" 1 ["kind", "rest"] (spD K F_least_reaching [.sh, .sh] .sh)) : FnOk P w K mg base CX0 2 f fd ["kind", "looks", "sight", "cell", "wide"] (spD K F_edge_points [.sh, .sh, .sh, .sh, .sh] .sh) := by
  obtain ⟨_, _, G_least_reaching, mg_least_reaching, kp_least_reaching, bi_least_reaching⟩ := h_least_reaching
  show FnOk P w K mg base CX0 (1 + 1) f fd ["kind", "looks", "sight", "cell", "wide"] (spD K (fnD 16 5 .sh b_edge_points) [.sh, .sh, .sh, .sh, .sh] .sh)
  refine fn_ok (k := 1) (ps := [.sh, .sh, .sh, .sh, .sh]) (rk := .sh) (b := b_edge_points) (O1 := []) (N := ["kind", "looks", "sight", "cell", "wide", "first", "last", "low", "high", "found", "divisor", "top", "look", "reach", "bottom", "peak"]) F sc_edge_points rfl (by decide) (fun cdv A outer s H E hr => ⟨_, (pss_cons (ps_asg (pv 3) (pg_tup rfl (pgs_cons (pg_name (i := 11) sc_edge_points.nd rfl (by first | exact Or.inl rfl | exact Or.inr rfl)) (pgs_cons (pg_name (i := 12) sc_edge_points.nd rfl (by first | exact Or.inl rfl | exact Or.inr rfl)) pgs_nil)))) (pss_cons (ps_set (i := 5) sc_edge_points.nd rfl (by first | exact Or.inl rfl | exact Or.inr rfl) (pe_op op_shlW (pv 11) (pe_op op_sub (pv 4) (pe_ix ix_seq (pv 1) pe_int (fun _ _ => rfl))))) (pss_cons (ps_set (i := 6) sc_edge_points.nd rfl (by first | exact Or.inl rfl | exact Or.inr rfl) (pe_op op_sub (pe_op op_shlW (pe_op op_addU (pv 11) pe_int) (pe_op op_sub (pv 4) (pe_ix ix_seq (pv 1) pe_int (fun _ _ => rfl)))) pe_int)) (pss_cons (ps_set (i := 7) sc_edge_points.nd rfl (by first | exact Or.inl rfl | exact Or.inr rfl) (pe_op op_shlW (pv 12) (pe_op op_sub (pv 4) (pe_ix ix_seq (pv 1) pe_int (fun _ _ => rfl))))) (pss_cons (ps_set (i := 8) sc_edge_points.nd rfl (by first | exact Or.inl rfl | exact Or.inr rfl) (pe_op op_sub (pe_op op_shlW (pe_op op_addU (pv 12) (pv 2)) (pe_op op_sub (pv 4) (pe_ix ix_seq (pv 1) pe_int (fun _ _ => rfl)))) pe_int)) (pss_cons (ps_set (i := 9) sc_edge_points.nd rfl (by first | exact Or.inl rfl | exact Or.inr rfl) (pe_lst pa_nil)) (pss_cons (ps_for PassesOwn.never rfl (pi_seq (pe_tup (pa_cons (pv 5) (pa_cons (pv 6) (pa_cons (pe_call G_least_reaching (hr.mono (by decide)) rfl mg_least_reaching kp_least_reaching bi_least_reaching .nil pass0 (pa_cons (pv 0) (pa_cons (pv 7) pa_nil))) (pa_cons (pe_call G_least_reaching (hr.mono (by decide)) rfl mg_least_reaching kp_least_reaching bi_least_reaching .nil pass0 (pa_cons (pv 0) (pa_cons (pe_un un_neg (pv 8)) pa_nil))) pa_nil)))))) (pg_name (i := 10) sc_edge_points.nd rfl (by first | exact Or.inl rfl | exact Or.inr rfl)) (pss_cons (ps_set (i := 13) sc_edge_points.nd rfl (by first | exact Or.inl rfl | exact Or.inr rfl) (pe_op op_fdivW (pe_op op_mulX (pe_op op_mulX (pe_ix ix_seq (pv 0) pe_int (fun _ _ => rfl)) (pe_ix ix_seq (pv 0) pe_int (fun _ _ => rfl))) (pv 10)) (pe_op op_sub (pe_ix ix_seq (pv 0) pe_int (fun _ _ => rfl)) pe_int))) (pss_cons (ps_set (i := 14) sc_edge_points.nd rfl (by first | exact Or.inl rfl | exact Or.inr rfl) (pe_callB (call_maxT rfl) rfl (hB "max" (by decide +kernel)) bt_max (pa_cons (pv 7) (pa_cons (pe_un un_neg (pv 13)) pa_nil)))) (pss_cons (ps_set (i := 15) sc_edge_points.nd rfl (by first | exact Or.inl rfl | exact Or.inr rfl) (pe_callB (call_min2 rfl) rfl (hB "min" (by decide +kernel)) bt_min (pa_cons (pv 8) (pa_cons (pv 13) pa_nil)))) (pss_one (ps_if (PW.pt (pw_and (pt_chain op_le op_le (pv 5) (pv 10) (pv 6)) (pw_and1 (pt_cmpR op_le (pv 14) (pv 15) (nomark _))))) (pss_one (ps_expr (pe_bm PySem.F.plainAttrs_list PySem.F.slot_list_extend PySem.F.type_list_extend mt_extend (pv 9) (pa_cons (pe_lst (pa_cons (pe_tup (pa_cons (pv 4) (pa_cons (pv 10) (pa_cons (pv 14) pa_nil)))) (pa_cons (pe_tup (pa_cons (pv 4) (pa_cons (pv 10) (pa_cons (pv 15) pa_nil)))) pa_nil))) pa_nil)))) pss_nil)))))) (pss_one (ps_ret (pv 9)))))))))), fun c hps hrk => ?_⟩)
  show DC K c [] [.sh, .sh, .sh, .sh, .sh, .sh, .sh, .sh, .sh, .sh, .sh, .sh, .sh, .sh, .sh, .sh] _ b_edge_points _
  exact (c_cons (c_asg (d_var 3) (g_tup (gs_cons (g_name 11) (gs_cons (g_name 12) gs_nil)))) (c_cons (c_set 5 (d_op g_shl (DE.b (d_var 11)) (DE.b (d_op g_sub (DE.b (d_var 4)) (DE.b (d_op g_ix (DE.b (d_var 1)) (DE.b d_int))))))) (c_cons (c_set 6 (d_op g_sub (DE.b (d_op g_shl (DE.b (d_op g_add (DE.b (d_var 11)) (DE.b d_int))) (DE.b (d_op g_sub (DE.b (d_var 4)) (DE.b (d_op g_ix (DE.b (d_var 1)) (DE.b d_int))))))) (DE.b d_int))) (c_cons (c_set 7 (d_op g_shl (DE.b (d_var 12)) (DE.b (d_op g_sub (DE.b (d_var 4)) (DE.b (d_op g_ix (DE.b (d_var 1)) (DE.b d_int))))))) (c_cons (c_set 8 (d_op g_sub (DE.b (d_op g_shl (DE.b (d_op g_add (DE.b (d_var 12)) (DE.b (d_var 2)))) (DE.b (d_op g_sub (DE.b (d_var 4)) (DE.b (d_op g_ix (DE.b (d_var 1)) (DE.b d_int))))))) (DE.b d_int))) (c_cons (c_setO 9 (o_lst da_nil)) (c_cons (c_for (i_seq (d_tup (da_cons (d_var 5) (da_cons (d_var 6) (da_cons (DO.sh (o_call (da_cons (d_var 0) (da_cons (d_var 7) da_nil)))) (da_cons (DO.sh (o_call (da_cons (d_var 0) (da_cons (d_un g_neg (DE.b (d_var 8))) da_nil)))) da_nil)))))) (g_name 10) (c_cons (c_set 13 (d_op g_div (DE.b (d_op g_mul (DE.b (d_op g_mul (DE.b (d_op g_ix (DE.b (d_var 0)) (DE.b d_int))) (DE.b (d_op g_ix (DE.b (d_var 0)) (DE.b d_int))))) (DE.b (d_var 10)))) (DE.b (d_op g_sub (DE.b (d_op g_ix (DE.b (d_var 0)) (DE.b d_int))) (DE.b d_int))))) (c_cons (c_set 14 (d_cb g_maxT (dab_cons (DE.b (d_var 7)) (dab_cons (DE.b (d_un g_neg (DE.b (d_var 13)))) dab_nil)))) (c_cons (c_set 15 (d_cb g_min (dab_cons (DE.b (d_var 8)) (dab_cons (DE.b (d_var 13)) dab_nil)))) (c_if (d_and (d_test (d_chain g_le g_le (d_var 5) (d_var 10) (d_var 6))) (d_test (d_op g_le (DE.b (d_var 14)) (DE.b (d_var 15))))) (c_ext 9 (o_lst (da_cons (d_tup (da_cons (d_var 4) (da_cons (d_var 10) (da_cons (d_var 14) da_nil)))) (da_cons (d_tup (da_cons (d_var 4) (da_cons (d_var 10) (da_cons (d_var 15) da_nil)))) da_nil)))) c_nil))))) (c_frz 9 rfl (c_ret (d_var 9) hrk)))))))))
theorem sc_serves : FnScope ["kind", "figure", "point", "wide", "divisor", "rest"] ["kind", "figure", "point"] (defScope s_serves) := ⟨rfl, rfl, rfl, by decide +kernel, rfl, by decide +kernel, by decide +kernel⟩
theorem ok_serves {f : Addr} {fd : FuncData}  (F : FnP K "serves" s_serves f fd) (hB : ∀ x ∈ bts, mg x = none)   : FnOk P w K mg base CX0 1 f fd ["kind", "figure", "point"] (spD K F_serves [.sh, .sh, .sh] .sh) := by
  show FnOk P w K mg base CX0 (0 + 1) f fd ["kind", "figure", "point"] (spD K (fnD 6 3 .sh b_serves) [.sh, .sh, .sh] .sh)
  refine fn_ok (k := 0) (ps := [.sh, .sh, .sh]) (rk := .sh) (b := b_serves) (O1 := []) (N := ["kind", "figure", "point", "wide", "divisor", "rest"]) F sc_serves rfl (by decide) (fun cdv A outer s H E hr => ⟨_, (pss_cons (ps_asg (pv 2) (pg_tup rfl (pgs_cons (pg_name (i := 3) sc_serves.nd rfl (by first | exact Or.inl rfl | exact Or.inr rfl)) (pgs_cons (pg_name (i := 4) sc_serves.nd rfl (by first | exact Or.inl rfl | exact Or.inr rfl)) (pgs_cons (pg_name (i := 5) sc_serves.nd rfl (by first | exact Or.inl rfl | exact Or.inr rfl)) pgs_nil))))) (pss_one (ps_ret (pe_cmpR op_le (pe_op op_mulX (pe_op op_sub (pe_ix ix_seq (pv 0) pe_int (fun _ _ => rfl)) pe_int) (pe_callB call_abs rfl (hB "abs" (by decide +kernel)) bt_abs (pa_cons (pe_op op_sub (pv 5) (pe_op op_mulX (pv 1) (pv 4))) pa_nil))) (pe_op op_mulX (pe_ix ix_seq (pv 0) pe_int (fun _ _ => rfl)) (pv 4)) (nomark _))))), fun c hps hrk => ?_⟩)
  show DC K c [] [.sh, .sh, .sh, .sh, .sh, .sh] _ b_serves _
  exact (c_cons (c_asg (d_var 2) (g_tup (gs_cons (g_name 3) (gs_cons (g_name 4) (gs_cons (g_name 5) gs_nil))))) (c_ret (d_op g_le (DE.b (d_op g_mul (DE.b (d_op g_sub (DE.b (d_op g_ix (DE.b (d_var 0)) (DE.b d_int))) (DE.b d_int))) (DE.b (d_cb g_abs (dab_cons (DE.b (d_op g_sub (DE.b (d_var 5)) (DE.b (d_op g_mul (DE.b (d_var 1)) (DE.b (d_var 4)))))) dab_nil))))) (DE.b (d_op g_mul (DE.b (d_op g_ix (DE.b (d_var 0)) (DE.b d_int))) (DE.b (d_var 4))))) hrk))
theorem sc_spoiler : FnScope ["kind", "looks", "sight", "cell", "figure", "wide", "point"] ["kind", "looks", "sight", "cell", "figure"] (defScope s_spoiler) := ⟨rfl, rfl, rfl, by decide +kernel, rfl, by decide +kernel, by decide +kernel⟩
theorem ok_spoiler {f : Addr} {fd : FuncData}  (F : FnP K "spoiler" s_spoiler f fd) (hB : ∀ x ∈ bts, mg x = none)  (h_good_figures : Fk P w K mg base "good_figures" 3 ["kind", "looks", "sight", "cell"] (spD K F_good_figures [.sh, .sh, .sh, .sh] .sh)) (h_edge_points : Fk P w K mg base "edge_points" 2 ["kind", "looks", "sight", "cell", "wide"] (spD K F_edge_points [.sh, .sh, .sh, .sh, .sh] .sh)) (h_serves : Fk P w K mg base "serves" 1 ["kind", "figure", "point"] (spD K F_serves [.sh, .sh, .sh] .sh)) : FnOk P w K mg base CX0 4 f fd ["kind", "looks", "sight", "cell", "figure"] (spD K F_spoiler [.sh, .sh, .sh, .sh, .sh] .sh) := by
  obtain ⟨_, _, G_good_figures, mg_good_figures, kp_good_figures, bi_good_figures⟩ := h_good_figures
  obtain ⟨_, _, G_edge_points, mg_edge_points, kp_edge_points, bi_edge_points⟩ := h_edge_points
  obtain ⟨_, _, G_serves, mg_serves, kp_serves, bi_serves⟩ := h_serves
  show FnOk P w K mg base CX0 (3 + 1) f fd ["kind", "looks", "sight", "cell", "figure"] (spD K (fnD 7 5 .sh b_spoiler) [.sh, .sh, .sh, .sh, .sh] .sh)
  refine fn_ok (k := 3) (ps := [.sh, .sh, .sh, .sh, .sh]) (rk := .sh) (b := b_spoiler) (O1 := [.sh, .sh, .sh, .sh, .sh, .sh, .sh]) (N := ["kind", "looks", "sight", "cell", "figure", "wide", "point"]) F sc_spoiler rfl (by decide) (fun cdv A outer s H E hr => ⟨_, (pss_cons (ps_if (pt_cmpR op_in_seq (pv 4) (pe_call G_good_figures (hr.mono (by decide)) rfl mg_good_figures kp_good_figures bi_good_figures .nil pass0 (pa_cons (pv 0) (pa_cons (pv 1) (pa_cons (pv 2) (pa_cons (pv 3) pa_nil))))) (by with_unfolding_all rfl)) (pss_one (ps_ret pe_non)) pss_nil) (pss_cons (ps_set (i := 5) sc_spoiler.nd rfl (by first | exact Or.inl rfl | exact Or.inr rfl) (pe_callB (call_maxT rfl) rfl (hB "max" (by decide +kernel)) bt_max (pa_cons (pv 1) pa_nil))) (pss_one (ps_while PassesOwn.never (pt_val pe_bl) (pss_cons (ps_for PassesOwn.never rfl (pi_seq (pe_call G_edge_points (hr.mono (by decide)) rfl mg_edge_points kp_edge_points bi_edge_points .nil pass0 (pa_cons (pv 0) (pa_cons (pv 1) (pa_cons (pv 2) (pa_cons (pv 3) (pa_cons (pv 5) pa_nil))))))) (pg_name (i := 6) sc_spoiler.nd rfl (by first | exact Or.inl rfl | exact Or.inr rfl)) (pss_one (ps_if (pt_not (pt_val (pe_call G_serves (hr.mono (by decide)) rfl mg_serves kp_serves bi_serves .nil pass0 (pa_cons (pv 0) (pa_cons (pv 4) (pa_cons (pv 6) pa_nil)))))) (pss_one (ps_ret (pv 6))) pss_nil))) (pss_one (ps_aug (i := 5) sc_spoiler.nd rfl (by first | exact Or.inl rfl | exact Or.inr rfl) pe_int ip_add))))))), fun c hps hrk => ?_⟩)
  show DC K c [] [.sh, .sh, .sh, .sh, .sh, .sh, .sh] _ b_spoiler _
  exact (c_cons (c_if (d_test (d_op g_in (DE.b (d_var 4)) (DE.b (DO.sh (o_call (da_cons (d_var 0) (da_cons (d_var 1) (da_cons (d_var 2) (da_cons (d_var 3) da_nil))))))))) (c_ret d_non hrk) c_nil) (c_cons (c_set 5 (d_cb g_maxT (dab_cons (DE.b (d_var 1)) dab_nil))) (c_while (d_tB d_bl) (c_cons (c_for (i_seq (DO.sh (o_call (da_cons (d_var 0) (da_cons (d_var 1) (da_cons (d_var 2) (da_cons (d_var 3) (da_cons (d_var 5) da_nil)))))))) (g_name 6) (c_if (d_not (d_tB (DO.sh (o_call (da_cons (d_var 0) (da_cons (d_var 4) (da_cons (d_var 6) da_nil))))))) (c_ret (d_var 6) hrk) c_nil)) (c_aug 5 d_int)))))
theorem sc_both_served : FnScope ["kind", "one", "other", "figure"] ["kind", "one", "other"] (defScope s_both_served) := ⟨rfl, rfl, rfl, by decide +kernel, rfl, by decide +kernel, by decide +kernel⟩
theorem ok_both_served {f : Addr} {fd : FuncData}  (F : FnP K "both_served" s_both_served f fd) (hB : ∀ x ∈ bts, mg x = none)  (h_serves : Fk P w K mg base "serves" 1 ["kind", "figure", "point"] (spD K F_serves [.sh, .sh, .sh] .sh)) : FnOk P w K mg base CX0 2 f fd ["kind", "one", "other"] (spD K F_both_served [.sh, .sh, .sh] .sh) := by
  obtain ⟨_, _, G_serves, mg_serves, kp_serves, bi_serves⟩ := h_serves
  show FnOk P w K mg base CX0 (1 + 1) f fd ["kind", "one", "other"] (spD K (fnD 4 3 .sh b_both_served) [.sh, .sh, .sh] .sh)
  refine fn_ok (k := 1) (ps := [.sh, .sh, .sh]) (rk := .sh) (b := b_both_served) (O1 := []) (N := ["kind", "one", "other", "figure"]) F sc_both_served rfl (by decide) (fun cdv A outer s H E hr => ⟨_, (pss_cons (ps_for PassesOwn.never rfl (pi_range2 rfl (hB "range" (by decide +kernel)) (pa_cons (pe_un un_neg (pe_ix ix_seq (pv 0) pe_int (fun _ _ => rfl))) (pa_cons (pe_op op_addU (pe_ix ix_seq (pv 0) pe_int (fun _ _ => rfl)) pe_int) pa_nil))) (pg_name (i := 3) sc_both_served.nd rfl (by first | exact Or.inl rfl | exact Or.inr rfl)) (pss_one (ps_if (PW.pt (pw_and (pt_val (pe_call G_serves (hr.mono (by decide)) rfl mg_serves kp_serves bi_serves .nil pass0 (pa_cons (pv 0) (pa_cons (pv 3) (pa_cons (pv 1) pa_nil))))) (pw_and1 (pt_val (pe_call G_serves (hr.mono (by decide)) rfl mg_serves kp_serves bi_serves .nil pass0 (pa_cons (pv 0) (pa_cons (pv 3) (pa_cons (pv 2) pa_nil)))))))) (pss_one (ps_ret pe_bl)) pss_nil))) (pss_one (ps_ret pe_bl))), fun c hps hrk => ?_⟩)
  show DC K c [] [.sh, .sh, .sh, .sh] _ b_both_served _
  exact (c_cons (c_for (i_r2 (da_cons (d_un g_neg (DE.b (d_op g_ix (DE.b (d_var 0)) (DE.b d_int)))) (da_cons (d_op g_add (DE.b (d_op g_ix (DE.b (d_var 0)) (DE.b d_int))) (DE.b d_int)) da_nil))) (g_name 3) (c_if (d_and (d_tB (DO.sh (o_call (da_cons (d_var 0) (da_cons (d_var 3) (da_cons (d_var 1) da_nil)))))) (d_tB (DO.sh (o_call (da_cons (d_var 0) (da_cons (d_var 3) (da_cons (d_var 2) da_nil))))))) (c_ret d_bl hrk) c_nil)) (c_ret d_bl hrk))
theorem sc_two_points : FnScope ["kind", "looks", "sight", "cell", "wide", "found", "at", "one", "other"] ["kind", "looks", "sight", "cell"] (defScope s_two_points) := ⟨rfl, rfl, rfl, by decide +kernel, rfl, by decide +kernel, by decide +kernel⟩
theorem ok_two_points {f : Addr} {fd : FuncData}  (F : FnP K "two_points" s_two_points f fd) (hB : ∀ x ∈ bts, mg x = none)  (h_is_met : Fk P w K mg base "is_met" 2 ["kind", "looks", "sight", "cell"] (spD K F_is_met [.sh, .sh, .sh, .sh] .sh)) (h_good_figures : Fk P w K mg base "good_figures" 3 ["kind", "looks", "sight", "cell"] (spD K F_good_figures [.sh, .sh, .sh, .sh] .sh)) (h_edge_points : Fk P w K mg base "edge_points" 2 ["kind", "looks", "sight", "cell", "wide"] (spD K F_edge_points [.sh, .sh, .sh, .sh, .sh] .sh)) (h_both_served : Fk P w K mg base "both_served" 2 ["kind", "one", "other"] (spD K F_both_served [.sh, .sh, .sh] .sh)) : FnOk P w K mg base CX0 4 f fd ["kind", "looks", "sight", "cell"] (spD K F_two_points [.sh, .sh, .sh, .sh] .sh) := by
  obtain ⟨_, _, G_is_met, mg_is_met, kp_is_met, bi_is_met⟩ := h_is_met
  obtain ⟨_, _, G_good_figures, mg_good_figures, kp_good_figures, bi_good_figures⟩ := h_good_figures
  obtain ⟨_, _, G_edge_points, mg_edge_points, kp_edge_points, bi_edge_points⟩ := h_edge_points
  obtain ⟨_, _, G_both_served, mg_both_served, kp_both_served, bi_both_served⟩ := h_both_served
  show FnOk P w K mg base CX0 (3 + 1) f fd ["kind", "looks", "sight", "cell"] (spD K (fnD 9 4 .sh b_two_points) [.sh, .sh, .sh, .sh] .sh)
  refine fn_ok (k := 3) (ps := [.sh, .sh, .sh, .sh]) (rk := .sh) (b := b_two_points) (O1 := [.sh, .sh, .sh, .sh, .sh, .sh, .sh, .sh, .sh]) (N := ["kind", "looks", "sight", "cell", "wide", "found", "at", "one", "other"]) F sc_two_points rfl (by decide) (fun cdv A outer s H E hr => ⟨_, (pss_cons (ps_if (PW.pt (pw_or (pt_not (pt_val (pe_call G_is_met (hr.mono (by decide)) rfl mg_is_met kp_is_met bi_is_met .nil pass0 (pa_cons (pv 0) (pa_cons (pv 1) (pa_cons (pv 2) (pa_cons (pv 3) pa_nil))))))) (pw_or1 (pt_cmpR (op_neD hr.units) (pe_call G_good_figures (hr.mono (by decide)) rfl mg_good_figures kp_good_figures bi_good_figures .nil pass0 (pa_cons (pv 0) (pa_cons (pv 1) (pa_cons (pv 2) (pa_cons (pv 3) pa_nil))))) (pe_lst pa_nil) (nomark _))))) (pss_one (ps_ret pe_non)) pss_nil) (pss_cons (ps_set (i := 4) sc_two_points.nd rfl (by first | exact Or.inl rfl | exact Or.inr rfl) (pe_callB (call_maxT rfl) rfl (hB "max" (by decide +kernel)) bt_max (pa_cons (pv 1) pa_nil))) (pss_one (ps_while PassesOwn.never (pt_val pe_bl) (pss_cons (ps_set (i := 5) sc_two_points.nd rfl (by first | exact Or.inl rfl | exact Or.inr rfl) (pe_call G_edge_points (hr.mono (by decide)) rfl mg_edge_points kp_edge_points bi_edge_points .nil pass0 (pa_cons (pv 0) (pa_cons (pv 1) (pa_cons (pv 2) (pa_cons (pv 3) (pa_cons (pv 4) pa_nil))))))) (pss_cons (ps_for PassesOwn.never rfl (pi_enum rfl (hB "enumerate" (by decide +kernel)) (pa_cons (pv 5) pa_nil)) (pg_tup rfl (pgs_cons (pg_name (i := 6) sc_two_points.nd rfl (by first | exact Or.inl rfl | exact Or.inr rfl)) (pgs_cons (pg_name (i := 7) sc_two_points.nd rfl (by first | exact Or.inl rfl | exact Or.inr rfl)) pgs_nil))) (pss_one (ps_for PassesOwn.never rfl (pi_seq (pe_slice sl_U (pv 5) po_none (po_some (pv 6)))) (pg_name (i := 8) sc_two_points.nd rfl (by first | exact Or.inl rfl | exact Or.inr rfl)) (pss_one (ps_if (pt_not (pt_val (pe_call G_both_served (hr.mono (by decide)) rfl mg_both_served kp_both_served bi_both_served .nil pass0 (pa_cons (pv 0) (pa_cons (pv 7) (pa_cons (pv 8) pa_nil)))))) (pss_one (ps_ret (pe_tup (pa_cons (pv 8) (pa_cons (pv 7) pa_nil))))) pss_nil))))) (pss_one (ps_aug (i := 4) sc_two_points.nd rfl (by first | exact Or.inl rfl | exact Or.inr rfl) pe_int ip_add)))))))), fun c hps hrk => ?_⟩)
  show DC K c [] [.sh, .sh, .sh, .sh, .sh, .sh, .sh, .sh, .sh] _ b_two_points _
  exact (c_cons (c_if (d_or (d_not (d_tB (DO.sh (o_call (da_cons (d_var 0) (da_cons (d_var 1) (da_cons (d_var 2) (da_cons (d_var 3) da_nil)))))))) (d_test (d_op g_ne (DE.b (DO.sh (o_call (da_cons (d_var 0) (da_cons (d_var 1) (da_cons (d_var 2) (da_cons (d_var 3) da_nil))))))) (DE.b (d_lst da_nil))))) (c_ret d_non hrk) c_nil) (c_cons (c_set 4 (d_cb g_maxT (dab_cons (DE.b (d_var 1)) dab_nil))) (c_while (d_tB d_bl) (c_cons (c_set 5 (DO.sh (o_call (da_cons (d_var 0) (da_cons (d_var 1) (da_cons (d_var 2) (da_cons (d_var 3) (da_cons (d_var 4) da_nil)))))))) (c_cons (c_for (i_enum (da_cons (d_var 5) da_nil)) (g_tup (gs_cons (g_name 6) (gs_cons (g_name 7) gs_nil))) (c_for (i_seq (d_sl (DE.b (d_var 5)) p_none (p_some (d_var 6)))) (g_name 8) (c_if (d_not (d_tB (DO.sh (o_call (da_cons (d_var 0) (da_cons (d_var 7) (da_cons (d_var 8) da_nil))))))) (c_ret (d_tup (da_cons (d_var 8) (da_cons (d_var 7) da_nil))) hrk) c_nil))) (c_aug 4 d_int))))))
theorem sc_law_right : FnScope ["kind", "looks", "sight", "point", "top", "look", "cell", "wide", "divisor", "rest", "good", "figure", "far"] ["kind", "looks", "sight", "point"] (defScope s_law_right) := ⟨rfl, rfl, rfl, by decide +kernel, rfl, by decide +kernel, by decide +kernel⟩
theorem ok_law_right {f : Addr} {fd : FuncData}  (F : FnP K "_law_right" s_law_right f fd) (hB : ∀ x ∈ bts, mg x = none)  (h_cells_of : Fk P w K mg base "cells_of" 1 ["kind", "looks", "sight", "point"] (spD K F_cells_of [.sh, .sh, .sh, .sh] .sh)) (h_is_met : Fk P w K mg base "is_met" 2 ["kind", "looks", "sight", "cell"] (spD K F_is_met [.sh, .sh, .sh, .sh] .sh)) (h_good_figures : Fk P w K mg base "good_figures" 3 ["kind", "looks", "sight", "cell"] (spD K F_good_figures [.sh, .sh, .sh, .sh] .sh)) (h_serves : Fk P w K mg base "serves" 1 ["kind", "figure", "point"] (spD K F_serves [.sh, .sh, .sh] .sh)) (h_spoiler : Fk P w K mg base "spoiler" 4 ["kind", "looks", "sight", "cell", "figure"] (spD K F_spoiler [.sh, .sh, .sh, .sh, .sh] .sh)) (h_two_points : Fk P w K mg base "two_points" 4 ["kind", "looks", "sight", "cell"] (spD K F_two_points [.sh, .sh, .sh, .sh] .sh)) : FnOk P w K mg base CX0 5 f fd ["kind", "looks", "sight", "point"] (spD K F_law_right [.sh, .sh, .sh, .sh] .sh) := by
  obtain ⟨_, _, G_cells_of, mg_cells_of, kp_cells_of, bi_cells_of⟩ := h_cells_of
  obtain ⟨_, _, G_is_met, mg_is_met, kp_is_met, bi_is_met⟩ := h_is_met
  obtain ⟨_, _, G_good_figures, mg_good_figures, kp_good_figures, bi_good_figures⟩ := h_good_figures
  obtain ⟨_, _, G_serves, mg_serves, kp_serves, bi_serves⟩ := h_serves
  obtain ⟨_, _, G_spoiler, mg_spoiler, kp_spoiler, bi_spoiler⟩ := h_spoiler
  obtain ⟨_, _, G_two_points, mg_two_points, kp_two_points, bi_two_points⟩ := h_two_points
  show FnOk P w K mg base CX0 (4 + 1) f fd ["kind", "looks", "sight", "point"] (spD K (fnD 13 4 .sh b_law_right) [.sh, .sh, .sh, .sh] .sh)
  refine fn_ok (k := 4) (ps := [.sh, .sh, .sh, .sh]) (rk := .sh) (b := b_law_right) (O1 := []) (N := ["kind", "looks", "sight", "point", "top", "look", "cell", "wide", "divisor", "rest", "good", "figure", "far"]) F sc_law_right rfl (by decide) (fun cdv A outer s H E hr => ⟨_, (pss_cons (ps_asg (pv 3) (pg_tup rfl (pgs_cons (pg_name (i := 7) sc_law_right.nd rfl (by first | exact Or.inl rfl | exact Or.inr rfl)) (pgs_cons (pg_name (i := 8) sc_law_right.nd rfl (by first | exact Or.inl rfl | exact Or.inr rfl)) (pgs_cons (pg_name (i := 9) sc_law_right.nd rfl (by first | exact Or.inl rfl | exact Or.inr rfl)) pgs_nil))))) (pss_cons (ps_set (i := 4) sc_law_right.nd rfl (by first | exact Or.inl rfl | exact Or.inr rfl) (pe_op op_fdivW (pv 8) (pe_op op_shlW pe_int (pe_op op_sub (pv 7) (pe_ix ix_seq (pv 1) pe_int (fun _ _ => rfl)))))) (pss_cons (ps_set (i := 5) sc_law_right.nd rfl (by first | exact Or.inl rfl | exact Or.inr rfl) (pe_op op_fdivW (pv 9) (pe_op op_shlW pe_int (pe_op op_sub (pv 7) (pe_ix ix_seq (pv 1) pe_int (fun _ _ => rfl)))))) (pss_cons (ps_if (pt_cmpR (op_neD hr.units) (pe_call G_cells_of (hr.mono (by decide)) rfl mg_cells_of kp_cells_of bi_cells_of .nil pass0 (pa_cons (pv 0) (pa_cons (pv 1) (pa_cons (pv 2) (pa_cons (pv 3) pa_nil))))) (pe_slice sl_U (pe_lst (pa_cons (pe_tup (pa_cons (pv 4) (pa_cons (pv 5) pa_nil))) (pa_cons (pe_tup (pa_cons (pv 4) (pa_cons (pe_op op_sub (pv 5) pe_int) pa_nil))) pa_nil))) po_none (po_some (pv 2))) (nomark _)) (pss_one (ps_ret pe_bl)) pss_nil) (pss_cons (ps_for PassesOwn.never rfl (pi_seq (pe_slice sl_U (pe_lst (pa_cons (pe_tup (pa_cons (pv 4) (pa_cons (pv 5) pa_nil))) (pa_cons (pe_tup (pa_cons (pv 4) (pa_cons (pe_op op_sub (pv 5) pe_int) pa_nil))) pa_nil))) po_none (po_some (pv 2)))) (pg_name (i := 6) sc_law_right.nd rfl (by first | exact Or.inl rfl | exact Or.inr rfl)) (pss_cons (ps_if (pt_cmpR op_notBl (pe_call G_is_met (hr.mono (by decide)) rfl mg_is_met kp_is_met bi_is_met .nil pass0 (pa_cons (pv 0) (pa_cons (pv 1) (pa_cons (pv 2) (pa_cons (pv 6) pa_nil))))) pe_bl (nomark _)) (pss_one (ps_ret pe_bl)) pss_nil) (pss_cons (ps_set (i := 10) sc_law_right.nd rfl (by first | exact Or.inl rfl | exact Or.inr rfl) (pe_call G_good_figures (hr.mono (by decide)) rfl mg_good_figures kp_good_figures bi_good_figures .nil pass0 (pa_cons (pv 0) (pa_cons (pv 1) (pa_cons (pv 2) (pa_cons (pv 6) pa_nil)))))) (pss_cons (ps_for PassesOwn.never rfl (pi_seq (pv 10)) (pg_name (i := 11) sc_law_right.nd rfl (by first | exact Or.inl rfl | exact Or.inr rfl)) (pss_cons (ps_set (i := 12) sc_law_right.nd rfl (by first | exact Or.inl rfl | exact Or.inr rfl) (pe_op op_sub (pv 9) (pe_op op_mulX (pv 11) (pv 8)))) (pss_cons (ps_if (PW.pt (pw_or (pt_cmpR op_gt (pe_op op_mulX (pe_op op_sub (pe_ix ix_seq (pv 0) pe_int (fun _ _ => rfl)) pe_int) (pe_callB (call_maxT rfl) rfl (hB "max" (by decide +kernel)) bt_max (pa_cons (pv 12) (pa_cons (pe_op op_sub pe_int (pv 12)) pa_nil)))) (pe_op op_mulX (pe_ix ix_seq (pv 0) pe_int (fun _ _ => rfl)) (pv 8)) (nomark _)) (pw_or1 (pt_not (pt_val (pe_call G_serves (hr.mono (by decide)) rfl mg_serves kp_serves bi_serves .nil pass0 (pa_cons (pv 0) (pa_cons (pv 11) (pa_cons (pv 3) pa_nil))))))))) (pss_one (ps_ret pe_bl)) pss_nil) (pss_one (ps_if (pt_cmpR op_notN (pe_call G_spoiler (hr.mono (by decide)) rfl mg_spoiler kp_spoiler bi_spoiler .nil pass0 (pa_cons (pv 0) (pa_cons (pv 1) (pa_cons (pv 2) (pa_cons (pv 6) (pa_cons (pv 11) pa_nil)))))) pe_non (nomark _)) (pss_one (ps_ret pe_bl)) pss_nil))))) (pss_one (ps_if (pt_cmpR (op_neD hr.units) (pe_cmpR op_isN (pe_call G_two_points (hr.mono (by decide)) rfl mg_two_points kp_two_points bi_two_points .nil pass0 (pa_cons (pv 0) (pa_cons (pv 1) (pa_cons (pv 2) (pa_cons (pv 6) pa_nil))))) pe_non (nomark _)) (pe_cmpR (op_neD hr.units) (pv 10) (pe_lst pa_nil) (nomark _)) (nomark _)) (pss_one (ps_ret pe_bl)) pss_nil)))))) (pss_one (ps_ret pe_bl))))))), fun c hps hrk => ?_⟩)
  show DC K c [] [.sh, .sh, .sh, .sh, .sh, .sh, .sh, .sh, .sh, .sh, .sh, .sh, .sh] _ b_law_right _
  exact (c_cons (c_asg (d_var 3) (g_tup (gs_cons (g_name 7) (gs_cons (g_name 8) (gs_cons (g_name 9) gs_nil))))) (c_cons (c_set 4 (d_op g_div (DE.b (d_var 8)) (DE.b (d_op g_shl (DE.b d_int) (DE.b (d_op g_sub (DE.b (d_var 7)) (DE.b (d_op g_ix (DE.b (d_var 1)) (DE.b d_int))))))))) (c_cons (c_set 5 (d_op g_div (DE.b (d_var 9)) (DE.b (d_op g_shl (DE.b d_int) (DE.b (d_op g_sub (DE.b (d_var 7)) (DE.b (d_op g_ix (DE.b (d_var 1)) (DE.b d_int))))))))) (c_cons (c_if (d_test (d_op g_ne (DE.b (DO.sh (o_call (da_cons (d_var 0) (da_cons (d_var 1) (da_cons (d_var 2) (da_cons (d_var 3) da_nil))))))) (DE.b (d_sl (DE.b (d_lst (da_cons (d_tup (da_cons (d_var 4) (da_cons (d_var 5) da_nil))) (da_cons (d_tup (da_cons (d_var 4) (da_cons (d_op g_sub (DE.b (d_var 5)) (DE.b d_int)) da_nil))) da_nil)))) p_none (p_some (d_var 2)))))) (c_ret d_bl hrk) c_nil) (c_cons (c_for (i_seq (d_sl (DE.b (d_lst (da_cons (d_tup (da_cons (d_var 4) (da_cons (d_var 5) da_nil))) (da_cons (d_tup (da_cons (d_var 4) (da_cons (d_op g_sub (DE.b (d_var 5)) (DE.b d_int)) da_nil))) da_nil)))) p_none (p_some (d_var 2)))) (g_name 6) (c_cons (c_if (d_test (d_op g_notBl (DE.b (DO.sh (o_call (da_cons (d_var 0) (da_cons (d_var 1) (da_cons (d_var 2) (da_cons (d_var 6) da_nil))))))) (DE.b d_bl))) (c_ret d_bl hrk) c_nil) (c_cons (c_set 10 (DO.sh (o_call (da_cons (d_var 0) (da_cons (d_var 1) (da_cons (d_var 2) (da_cons (d_var 6) da_nil))))))) (c_cons (c_for (i_seq (d_var 10)) (g_name 11) (c_cons (c_set 12 (d_op g_sub (DE.b (d_var 9)) (DE.b (d_op g_mul (DE.b (d_var 11)) (DE.b (d_var 8)))))) (c_cons (c_if (d_or (d_test (d_op g_gt (DE.b (d_op g_mul (DE.b (d_op g_sub (DE.b (d_op g_ix (DE.b (d_var 0)) (DE.b d_int))) (DE.b d_int))) (DE.b (d_cb g_maxT (dab_cons (DE.b (d_var 12)) (dab_cons (DE.b (d_op g_sub (DE.b d_int) (DE.b (d_var 12)))) dab_nil)))))) (DE.b (d_op g_mul (DE.b (d_op g_ix (DE.b (d_var 0)) (DE.b d_int))) (DE.b (d_var 8)))))) (d_not (d_tB (DO.sh (o_call (da_cons (d_var 0) (da_cons (d_var 11) (da_cons (d_var 3) da_nil)))))))) (c_ret d_bl hrk) c_nil) (c_if (d_test (d_op g_notN (DE.b (DO.sh (o_call (da_cons (d_var 0) (da_cons (d_var 1) (da_cons (d_var 2) (da_cons (d_var 6) (da_cons (d_var 11) da_nil)))))))) (DE.b d_non))) (c_ret d_bl hrk) c_nil)))) (c_if (d_test (d_op g_ne (DE.b (d_op g_isN (DE.b (DO.sh (o_call (da_cons (d_var 0) (da_cons (d_var 1) (da_cons (d_var 2) (da_cons (d_var 6) da_nil))))))) (DE.b d_non))) (DE.b (d_op g_ne (DE.b (d_var 10)) (DE.b (d_lst da_nil)))))) (c_ret d_bl hrk) c_nil))))) (c_ret d_bl hrk))))))
theorem sc_law : FnScope ["script", "deck", "kind", "looks", "cell", "point", "sight"] ["script"] (defScope s_law) := ⟨rfl, rfl, rfl, by decide +kernel, rfl, by decide +kernel, by decide +kernel⟩
theorem ok_law {f : Addr} {fd : FuncData}  (F : FnP K "law" s_law f fd) (hB : ∀ x ∈ bts, mg x = none)  (h_law_deck : Fk P w K mg base "_law_deck" 1 ["cell", "turn"] (spD K F_law_deck [.sh, .sh] (.ls .sh))) (h_law_kind : Fk P w K mg base "_law_kind" 2 ["deck"] (spD K F_law_kind [(.pm (.ls .sh))] .sh)) (h_law_looks : Fk P w K mg base "_law_looks" 2 ["deck"] (spD K F_law_looks [(.pm (.ls .sh))] .sh)) (h_law_point : Fk P w K mg base "_law_point" 3 ["deck", "kind", "looks"] (spD K F_law_point [(.pm (.ls .sh)), .sh, .sh] .sh)) (h_law_right : Fk P w K mg base "_law_right" 5 ["kind", "looks", "sight", "point"] (spD K F_law_right [.sh, .sh, .sh, .sh] .sh)) : FnOk P w K mg base CX0 6 f fd ["script"] (spD K F_law [.sh] .sh) := by
  obtain ⟨_, _, G_law_deck, mg_law_deck, kp_law_deck, bi_law_deck⟩ := h_law_deck
  obtain ⟨_, _, G_law_kind, mg_law_kind, kp_law_kind, bi_law_kind⟩ := h_law_kind
  obtain ⟨_, _, G_law_looks, mg_law_looks, kp_law_looks, bi_law_looks⟩ := h_law_looks
  obtain ⟨_, _, G_law_point, mg_law_point, kp_law_point, bi_law_point⟩ := h_law_point
  obtain ⟨_, _, G_law_right, mg_law_right, kp_law_right, bi_law_right⟩ := h_law_right
  show FnOk P w K mg base CX0 (5 + 1) f fd ["script"] (spD K (fnD 7 1 .sh b_law) [.sh] .sh)
  refine fn_ok (k := 5) (ps := [.sh]) (rk := .sh) (b := b_law) (O1 := []) (N := ["script", "deck", "kind", "looks", "cell", "point", "sight"]) F sc_law rfl (by decide) (fun cdv A outer s H E hr => ⟨_, (pss_cons (ps_set (i := 1) sc_law.nd rfl (by first | exact Or.inl rfl | exact Or.inr rfl) (pe_call G_law_deck (hr.mono (by decide)) rfl mg_law_deck kp_law_deck bi_law_deck .nil pass0 (pa_cons (pe_ix ix_seq (pe_op op_addU (pv 0) (pe_lst (pa_cons pe_int pa_nil))) pe_int (fun _ _ => rfl)) (pa_cons pe_int pa_nil)))) (pss_cons (ps_set (i := 2) sc_law.nd rfl (by first | exact Or.inl rfl | exact Or.inr rfl) (pe_call G_law_kind (hr.mono (by decide)) rfl mg_law_kind kp_law_kind bi_law_kind .nil pass0 (pa_cons (pv 1) pa_nil))) (pss_cons (ps_set (i := 3) sc_law.nd rfl (by first | exact Or.inl rfl | exact Or.inr rfl) (pe_call G_law_looks (hr.mono (by decide)) rfl mg_law_looks kp_law_looks bi_law_looks .nil pass0 (pa_cons (pv 1) pa_nil))) (pss_cons (ps_for PassesOwn.never rfl (pi_seq (pe_op op_addU (pe_slice sl_U (pv 0) (po_some pe_int) (po_some pe_int)) (pe_lst (pa_cons pe_int pa_nil)))) (pg_name (i := 4) sc_law.nd rfl (by first | exact Or.inl rfl | exact Or.inr rfl)) (pss_cons (ps_set (i := 1) sc_law.nd rfl (by first | exact Or.inl rfl | exact Or.inr rfl) (pe_call G_law_deck (hr.mono (by decide)) rfl mg_law_deck kp_law_deck bi_law_deck .nil pass0 (pa_cons (pv 4) (pa_cons pe_int pa_nil)))) (pss_cons (ps_set (i := 5) sc_law.nd rfl (by first | exact Or.inl rfl | exact Or.inr rfl) (pe_call G_law_point (hr.mono (by decide)) rfl mg_law_point kp_law_point bi_law_point .nil pass0 (pa_cons (pv 1) (pa_cons (pv 2) (pa_cons (pv 3) pa_nil))))) (pss_one (ps_for PassesOwn.never rfl (pi_seq (pe_tup (pa_cons pe_int (pa_cons pe_int pa_nil)))) (pg_name (i := 6) sc_law.nd rfl (by first | exact Or.inl rfl | exact Or.inr rfl)) (pss_one (ps_if (pt_not (pt_val (pe_call G_law_right (hr.mono (by decide)) rfl mg_law_right kp_law_right bi_law_right .nil pass0 (pa_cons (pv 2) (pa_cons (pv 3) (pa_cons (pv 6) (pa_cons (pv 5) pa_nil))))))) (pss_one (ps_ret pe_bl)) pss_nil))))))) (pss_one (ps_ret pe_bl)))))), fun c hps hrk => ?_⟩)
  show DC K c [] [.sh, .sh, .sh, .sh, .sh, .sh, .sh] _ b_law _
  exact (c_cons (c_setO 1 (o_call (da_cons (d_op g_ix (DE.b (d_op g_add (DE.b (d_var 0)) (DE.b (d_lst (da_cons d_int da_nil))))) (DE.b d_int)) (da_cons d_int da_nil)))) (c_cons (c_set 2 (DO.sh (o_call1 1 (k := .ls .sh) da_nil (.inl rfl)))) (c_cons (c_set 3 (DO.sh (o_call1 1 (k := .ls .sh) da_nil (.inl rfl)))) (c_cons (c_for (i_seq (d_op g_add (DE.b (d_sl (DE.b (d_var 0)) (p_some d_int) (p_some d_int))) (DE.b (d_lst (da_cons d_int da_nil))))) (g_name 4) (c_cons (c_setO 1 (o_call (da_cons (d_var 4) (da_cons d_int da_nil)))) (c_cons (c_set 5 (DO.sh (o_call1 1 (k := .ls .sh) (da_cons (d_var 2) (da_cons (d_var 3) da_nil)) (.inl rfl)))) (c_for (i_seq (d_tup (da_cons d_int (da_cons d_int da_nil)))) (g_name 6) (c_if (d_not (d_tB (DO.sh (o_call (da_cons (d_var 2) (da_cons (d_var 3) (da_cons (d_var 6) (da_cons (d_var 5) da_nil)))))))) (c_ret d_bl hrk) c_nil))))) (c_ret d_bl hrk)))))
end
end S
set_option Elab.async false
set_option linter.all false
set_option maxRecDepth 100000
set_option maxHeartbeats 1000000
namespace S
open PySem L2 Z
local macro_rules | `(tactic| walk_at "z") => `(tactic| try simp (config := { dsimp := false }) only [↓run_nx, ↓run_no, ↓run_bk, ↓run_ct, ↓run_seq, ↓run_set, ↓run_drop, ↓run_ret, ↓run_asg, ↓run_app, ↓run_put, ↓run_aug, ↓run_frz, ↓run_kill, ↓xr_if, ↓ev_lc, ↓ev_yes, ↓run_ext, ↓ev_enum, ↓run_fo, ↓run_wh, ↓ev_ok, ↓ev_opt, ↓ev_var, ↓ev_C, ↓ev_V, ↓ev_slot, ↓ev_op, ↓ev_un, ↓ev_B, ↓ev_not, ↓ev_notV, ↓ev_nil, ↓ev_cons, ↓ev_nilB, ↓ev_consB, ↓ev_tup, ↓ev_lst, ↓ev_B1, ↓ev_sl, ↓ev_P0, ↓ev_P1, ↓ev_Rg1, ↓ev_Rg2, ↓ev_LstRg, ↓ev_It, ↓ev_R1, ↓ev_R2, ↓xv_and, ↓xv_or, ↓xv_andV, ↓xv_orV, ↓xv_if, ↓xv_chain, ↓xv_call, ↓xv_call1, ↓xv_callT, hdC, br_t, br_f, so_some, so_none, so_mapN, so_mapC, lks_eq, rg_z, rg_s, lk0, lkS, st0, stS, entry0, entryS, rep0, repS, res_val, res_slot, so_add, so_sub, so_addN, so_subN, so_mul, so_div, so_mod, so_pow, so_shl, so_shr, so_and, so_or, so_xor, so_lt, so_le, so_gt, so_ge, so_eqI, so_neI, so_neg, so_isN, so_notN, non_n, non_i, non_t, non_l, non_b, non_s, so_ixL, so_ixT, at0, at1, at2, at3, ix0, ix1, ix2, ixN30, ixN31, ixN32, so_tru, so_iof, so_lof, so_itL, so_itT, so_r1, so_r2, so_abs, so_max, so_min, so_intB, so_intI, ii_i, ib_i, ib_b, ii_b, it_t, it_l, il_l, il_t, so_cat, so_inL, so_inT, so_ninL, so_ninT, so_maxI, so_maxT, so_rev, so_bits, so_en, wpD0, wpDC, bk0, bkC, oat0, oatS, so_catD, so_isBl, so_notBl, so_slL, so_lenL, so_lenT, so_gN, Int.cast_ofNat_Int, so_gT, so_gC, so_gE, Int.toNat_natCast, Int.one_mul, modC_eq, shrC_eq, powC_eq, fits0, fits1, fits2, fits3, fits4, fits5, fits6, fits7, fits8, fits9, fits10, fits11, fits12, fits13, fits14, fits15, fits16, rngC_eq, List.length_cons, List.length_nil, Nat.reduceAdd, Nat.zero_add, List.set_cons_zero, List.set_cons_succ, true_and, and_true, decide_true, decide_false, Bool.not_true, Bool.not_false, Int.reduceLT, Int.reduceSub, Int.reduceAdd, Int.reduceMul, Int.reduceNeg, Int.reduceDiv, Int.reduceMod, Int.reduceEq, Int.reduceLE, Int.reduceToNat, Int.reducePow, nab10, nab2, eq_self])
local macro_rules | `(tactic| walk_at "e") => `(tactic| (simp (config := { dsimp := false }) only [entryS, entry0, repS, rep0]; walk_at "z"))
structure Dk (n : Nat) (d : D) : Prop where
  is : ∃ a b c : Int, d = .list [.int a, .int b, .int c] ∧ 0 ≤ b ∧ b < 2147483579 ∧ 0 ≤ c ∧ c ≤ n
theorem pick_cl {n : Nat} {e : D} {m : Int} {Q : D → List D → Prop} (h : Dk n e) (hn : n ≤ 100000000000) (h1 : divC 0 m = true) (q : ∀ v e', 0 ≤ v → v < m → Dk (n + 1) e' → Q (.int v) [e', .int m]) : Cl F_law_pick [e, .int m] Q := by
  obtain ⟨a, b, c, rfl, hb0, hb1, hc0, hc1⟩ := h.is
  have hm := divC_pos h1
  refine fn_cl rfl ?_
  unfold b_law_pick
  walk_at "e"
  refine br_d (fun h => ?_) fun h => ?_
  · walk_at "z"
    exact ⟨hm, divC_any h1, q _ _ (Int.emod_nonneg _ (by omega)) (Int.emod_lt_of_pos _ hm) ⟨_, _, _, rfl, hb0, hb1, hc0, by omega⟩⟩
  · walk_at "z"
    have p1 : 0 ≤ (b + 15485867 * (c + 1)) ^ 5 % 2147483647 := Int.emod_nonneg _ (by omega)
    have p2 : (b + 15485867 * (c + 1)) ^ 5 % 2147483647 < 2147483647 := Int.emod_lt_of_pos _ (by omega)
    generalize (b + 15485867 * (c + 1)) ^ 5 % 2147483647 = u at *
    have p3 : 0 ≤ (u + 7919 * (c + 1)) ^ 3 % 2147483629 / 32 := Int.ediv_nonneg (Int.emod_nonneg _ (by omega)) (by omega)
    have p4 : (u + 7919 * (c + 1)) ^ 3 % 2147483629 / 32 < 2147483629 := by
      have := Int.emod_lt_of_pos ((u + 7919 * (c + 1)) ^ 3) (by omega : (0 : Int) < 2147483629)
      omega
    refine ⟨mulC_of (m := 24) (n := 64) (by omega) (by omega), by omega, mulC_of (m := 24) (n := 64) (by omega) (by omega), by omega, divL, ?_⟩
    generalize (u + 7919 * (c + 1)) ^ 3 % 2147483629 / 32 = v at *
    refine br_d (fun h => ?_) fun h => ?_
    · walk_at "z"
      exact ⟨mulC_of (m := 64) (n := 64) (by omega) (by omega), hm, q _ _ (Int.emod_nonneg _ (by omega)) (Int.emod_lt_of_pos _ hm) ⟨_, _, _, rfl, hb0, hb1, by omega, by omega⟩⟩
    · walk_at "z"
      exact ⟨hm, q _ _ (Int.emod_nonneg _ (by omega)) (Int.emod_lt_of_pos _ hm) ⟨_, _, _, rfl, hb0, hb1, by omega, by omega⟩⟩
theorem Dk.mono {n m : Nat} {e : D} (h : Dk n e) (hm : n ≤ m) : Dk m e := by
  obtain ⟨a, b, c, rfl, h1, h2, h3, h4⟩ := h.is
  exact ⟨a, b, c, rfl, h1, h2, h3, by omega⟩
theorem deck_cl {n : Nat} {cell t : Int} {Q : D → List D → Prop} (h0 : 0 ≤ t) (h1 : t ≤ n) (q : ∀ e, Dk n e → Q e [.int cell, .int t]) : Cl F_law_deck [.int cell, .int t] Q := by
  refine fn_cl rfl ?_
  unfold b_law_deck
  walk_at "e"
  have p1 : 0 ≤ cell % 2147483579 := Int.emod_nonneg _ (by omega)
  have p2 : cell % 2147483579 < 2147483579 := Int.emod_lt_of_pos _ (by omega)
  refine br_d (fun h => ?_) fun h => ?_
  · walk_at "z"
    exact q _ ⟨_, _, _, rfl, p1, p2, h0, h1⟩
  · walk_at "z"
    exact q _ ⟨_, _, _, rfl, p1, p2, h0, h1⟩
theorem so_atP {l : List D} {i : Int} {Q : D → Prop} (P : D → Prop) (h0 : 0 ≤ i) (h1 : i < l.length) (hP : ∀ x ∈ l, P x) (q : ∀ x, P x → Q x) : So (atI l i) Q :=
  so_at h0 h1 fun v hv => q v (hP v (List.mem_of_getElem? hv))
/-- an int within bounds -/
def Bt (a b : Int) (d : D) : Prop := ∃ v : Int, d = .int v ∧ a ≤ v ∧ v ≤ b
structure Knd (b m : Int) : Prop where
  base : b = 2 ∨ b = 4 ∨ b = 8 ∨ b = 16
  lo : b ≤ 2 * m
  hi : m < b
theorem Knd.b2 {b m : Int} (k : Knd b m) : 2 ≤ b ∧ b ≤ 16 ∧ 1 ≤ m ∧ m ≤ 15 := by
  have := k.lo
  have := k.hi
  rcases k.base with h | h | h | h <;> omega
theorem kind_cl {n : Nat} {e : D} {Q : D → List D → Prop} (h : Dk n e) (hn : n ≤ 10000000000) (q : ∀ b m e', Knd b m → Dk (n + 2) e' → Q (.tuple [.int b, .int m]) [e']) : Cl F_law_kind [e] Q := by
  refine fn_cl rfl ?_
  unfold b_law_kind
  walk_at "e"
  refine pick_cl h (by omega) divL fun v e1 v0 v1 h1 => ?_
  walk_at "z"
  refine so_atP (fun d => ∃ b : Int, d = .int b ∧ (b = 2 ∨ b = 4 ∨ b = 8 ∨ b = 16)) v0 (by simpa using v1) (by simp) fun d hd => ?_
  obtain ⟨b, rfl, hb⟩ := hd
  walk_at "z"
  refine ⟨divL, divL, ?_⟩
  refine pick_cl h1 (by omega) (divC_of (n := 5) (by omega) (by omega)) fun m e2 m0 m1 h2 => ?_
  walk_at "z"
  exact q _ _ _ ⟨hb, by omega, by omega⟩ h2
theorem great_cl {n : Nat} {e : D} {f : Int} {Q : D → List D → Prop} (h : Dk n e) (hn : n ≤ 10000000000) (f0 : 0 ≤ f) (f1 : f ≤ 200) (q : ∀ v e', 0 ≤ v → v < 2 ^ 200 → Dk (n + 6) e' → Q (.int v) [e', .int f]) : Cl F_law_great [e, .int f] Q := by
  refine fn_cl rfl ?_
  unfold b_law_great
  walk_at "e"
  refine pick_cl h (by omega) (divC_of (n := 8) (by omega) (by omega)) fun c e1 c0 c1 h1 => ?_
  walk_at "z"
  refine ⟨by omega, for_r0 (fun i s => ∃ z t, s = [some e1, some (.int f), some (.int z), t, none] ∧ 0 < z ∧ z < 2 ^ (4 * i + 1)) ⟨1, none, rfl, by omega, by decide⟩ ?_ ?_⟩
  · rintro i _ hi ⟨z, t, rfl, z0, z1⟩
    walk_at "z"
    refine ⟨mulC_of (m := 4 * i + 1) (n := 4) (abs_pow2 (by omega) z1) (by decide) (by omega), _, _, rfl, by omega, ?_⟩
    rw [show 4 * (i + 1) + 1 = 4 * i + 1 + 4 by omega, Int.pow_add]
    have : (2 : Int) ^ 4 = 16 := by decide
    rw [this]
    omega
  · rintro _ ⟨z, t, rfl, z0, z1⟩
    walk_at "z"
    refine for_r0 (fun i s => ∃ e v t, s = [some e, some (.int f), some (.int z), t, some (.int v)] ∧ Dk (n + 1 + i) e ∧ 0 ≤ v ∧ v < 2 ^ (40 * i)) ⟨_, 0, _, rfl, h1, by omega, by decide⟩ ?_ ?_
    · rintro i _ hi ⟨e2, v, t, rfl, h2, v0, v1⟩
      walk_at "z"
      refine ⟨mulC_of (m := 40 * i) (n := 40) (abs_pow2 v0 v1) (by decide) (by omega), ?_⟩
      refine pick_cl h2 (by omega) divL fun x e3 x0 x1 h3 => ?_
      walk_at "z"
      refine ⟨_, _, _, rfl, h3, by omega, ?_⟩
      rw [show 40 * (i + 1) = 40 * i + 40 by omega, Int.pow_add, show (2 : Int) ^ 40 = 1099511627776 by decide]
      omega
    · rintro _ ⟨e2, v, t, rfl, h2, v0, v1⟩
      walk_at "z"
      have a0 := Int.emod_nonneg v (by omega : z ≠ 0)
      have a1 := Int.emod_lt_of_pos v z0
      have a2 : v % z ≤ v := by
        have h1 := Int.emod_add_mul_ediv v z
        have h2 := Int.mul_nonneg (Int.le_of_lt z0) (Int.ediv_nonneg v0 (Int.le_of_lt z0))
        omega
      refine ⟨z0, q _ _ a0 ?_ (h2.mono (by omega))⟩
      exact Int.lt_of_le_of_lt a2 v1
theorem looks_cl {n : Nat} {e : D} {Q : D → List D → Prop} (h : Dk n e) (hn : n ≤ 10000000000) (q : ∀ (t p : Nat) e', 1 ≤ t → t ≤ 8 → p ≤ 8 → Dk (n + 3) e' → Q (.tuple [.int t, .int p]) [e']) : Cl F_law_looks [e] Q := by
  refine fn_cl rfl ?_
  unfold b_law_looks
  walk_at "e"
  refine pick_cl h (by omega) divL fun v e1 v0 v1 h1 => ?_
  walk_at "z"
  refine br_d (fun hv => ?_) fun hv => ?_
  · walk_at "z"
    refine pick_cl h1 (by omega) divL fun a e2 a0 a1 h2 => ?_
    walk_at "z"
    refine pick_cl h2 (by omega) divL fun b e3 b0 b1 h3 => ?_
    walk_at "z"
    have := q (1 + a).toNat b.toNat e3 (by omega) (by omega) (by omega) h3
    rwa [Int.toNat_of_nonneg (by omega), Int.toNat_of_nonneg b0] at this
  · walk_at "z"
    refine pick_cl h1 (by omega) divL fun a e2 a0 a1 h2 => ?_
    walk_at "z"
    refine pick_cl h2 (by omega) divL fun b e3 b0 b1 h3 => ?_
    walk_at "z"
    have := q (1 + a).toNat b.toNat e3 (by omega) (by omega) (by omega) h3
    rwa [Int.toNat_of_nonneg (by omega), Int.toNat_of_nonneg b0] at this
/-- a point of a kind and looks -/
structure Pnt (b m : Int) (t p w : Nat) (d r : Int) : Prop where
  wt : t ≤ w
  wp : p ≤ w
  w1 : 1 ≤ w
  d0 : 2 ^ (w - 1) ≤ d
  d1 : d < 2 ^ w
  r0 : (b - 1) * r ≤ b * m * d
  r1 : (b - 1) * (-r) ≤ b * m * d
theorem pow2_dbl {w : Nat} (h : 1 ≤ w) : (2 : Int) ^ w = 2 * 2 ^ (w - 1) := by
  rw [Int.mul_comm, ← Int.pow_succ, show (w - 1).succ = w by omega]
theorem reach_le {b m d r : Int} (hb : 2 ≤ b) (h : r ≤ b * m * d / (b - 1)) : (b - 1) * r ≤ b * m * d := by
  have h1 := Int.emod_add_mul_ediv (b * m * d) (b - 1)
  have h2 := Int.emod_nonneg (b * m * d) (by omega : b - 1 ≠ 0)
  have h3 := Int.mul_le_mul_of_nonneg_left h (by omega : 0 ≤ b - 1)
  omega
theorem point_cl {n : Nat} {e : D} {b m : Int} {t p : Nat} {Q : D → List D → Prop} (h : Dk n e) (hn : n ≤ 1000000000) (hk : Knd b m) (t1 : 1 ≤ t) (t2 : t ≤ 8) (p2 : p ≤ 8)
    (q : ∀ (w : Nat) d r e' as, w ≤ 68 → Pnt b m t p w d r → Dk (n + 100) e' → Q (.tuple [.int w, .int d, .int r]) (e' :: as)) : Cl F_law_point [e, .tuple [.int b, .int m], .tuple [.int t, .int p]] Q := by
  obtain ⟨kb0, kb1, km0, km1⟩ := hk.b2
  refine fn_cl rfl ?_
  unfold b_law_point
  walk_at "e"
  refine pick_cl h (by omega) divL fun a1 e1 a0 a2 h1 => ?_
  walk_at "z"
  refine pick_cl h1 (by omega) divL fun b1 e2 b0 b2 h2 => ?_
  walk_at "z"
  refine pick_cl h2 (by omega) divL fun i1 e3 i0 i2 h3 => ?_
  walk_at "z"
  refine so_atP (Bt 0 59) i0 (by simpa using i2) (by simp only [List.mem_cons, List.not_mem_nil, or_false]; rintro x (rfl | rfl) <;> exact ⟨_, rfl, by omega, by omega⟩) fun x hx => ?_
  obtain ⟨v, rfl, v0, v1⟩ := hx
  obtain ⟨w, hw, hwt, hwp, hw2⟩ : ∃ w : Nat, ((if (p : Int) > t then (p : Int) else t) + v) = w ∧ t ≤ w ∧ p ≤ w ∧ w ≤ 68 := ⟨((if (p : Int) > t then (p : Int) else t) + v).toNat, by split <;> omega, by split <;> omega, by split <;> omega, by split <;> omega⟩
  walk_at "z"
  rw [hw]
  have hw1 : (w : Int) - 1 = ((w - 1 : Nat) : Int) := by omega
  have hwt' : (w : Int) - t = ((w - t : Nat) : Int) := by omega
  have hwp' : (w : Int) - p = ((w - p : Nat) : Int) := by omega
  rw [hw1, hwt']
  walk_at "z"
  have z1 := pow2_dbl (show 1 ≤ w by omega)
  have zp := pow2_pos (w - 1)
  have zt := pow2_pos (w - t)
  have zq := pow2_pos (w - p)
  have zb : (2 : Int) ^ w ≤ 2 ^ 68 := pow2_le hw2
  have zc : (2 : Int) ^ (w - t) ≤ 2 ^ 68 := pow2_le (by omega)
  have zd : (2 : Int) ^ (w - p) ≤ 2 ^ 68 := pow2_le (by omega)
  have ze : (2 : Int) ^ 68 = 295147905179352825856 := by decide
  refine ⟨shl1C (by omega), shl1C (by omega), ?_⟩
  refine great_cl h3 (by omega) (by omega) (by omega) fun g e4 g0 g1 h4 => ?_
  walk_at "z"
  refine ⟨zp, ?_⟩
  refine pick_cl h4 (by omega) divL fun i1 e5 i0 i2 h5 => ?_
  walk_at "z"
  have gm0 := Int.emod_nonneg g (by omega : (2 : Int) ^ (w - 1) ≠ 0)
  have gm1 := Int.emod_lt_of_pos g zp
  refine so_atP (Bt 0 (2 ^ (w - 1) - 1)) i0 (by simpa using i2) (by simp only [List.mem_cons, List.not_mem_nil, or_false]; rintro x (rfl | rfl | rfl) <;> exact ⟨_, rfl, by omega, by omega⟩) fun x hx => ?_
  obtain ⟨dd, rfl, dd0, dd1⟩ := hx
  walk_at "z"
  refine pick_cl h5 (by omega) divL fun i1 e6 i0 i2 h6 => ?_
  walk_at "z"
  generalize hd0 : 2 ^ (w - 1) + dd = d0
  have d00 : 2 ^ (w - 1) ≤ d0 := by omega
  have d01 : d0 < 2 ^ w := by omega
  clear hd0 dd0 dd1 dd
  refine br_cut (fun s => ∃ d e7 x5, s = [some e7, some (.tuple [.int b, .int m]), some (.tuple [.int t, .int p]), some (.int w), some (.int (2 ^ (w - 1))), some (.int x5), some (.int d), none, none] ∧ 2 ^ (w - 1) ≤ d ∧ d < 2 ^ w ∧ Dk (n + 20) e7) (fun _ => ?_) (fun _ => ?_) ?_
  · walk_at "z"
    refine ⟨mulC_of (m := 2) (n := 70) (by decide) (by omega), divC_of (n := 70) zt (by omega), ?_⟩
    have q0 := Int.ediv_nonneg (show 0 ≤ d0 by omega) (Int.le_of_lt zt)
    have q1 := Int.ediv_mul_le d0 (show (2 : Int) ^ (w - t) ≠ 0 by omega)
    have q2 : d0 / 2 ^ (w - t) ≤ d0 := Int.ediv_le_self _ (by omega)
    refine ⟨mulC_of (m := 70) (n := 70) (by omega) (by omega), ?_⟩
    refine pick_cl h6 (by omega) divL fun c e7 c0 c1 h7 => ?_
    walk_at "z"
    refine ⟨_, _, _, rfl, ?_, ?_, h7.mono (by omega)⟩
    · split <;> split <;> omega
    · split <;> split <;> omega
  · walk_at "z"
    exact ⟨_, _, _, rfl, d00, d01, h6.mono (by omega)⟩
  rintro _ ⟨d, e7, x5, rfl, d00, d01, h7⟩
  walk_at "z"
  have bm : 0 ≤ b * m ∧ b * m ≤ 240 := by
    have a1 := Int.mul_nonneg (show 0 ≤ b by omega) (show 0 ≤ m by omega)
    have a2 := Int.mul_le_mul (show b ≤ 16 by omega) (show m ≤ 15 by omega) (by omega) (by omega)
    omega
  have bmd : 0 ≤ b * m * d ∧ b * m * d ≤ 240 * d := by
    have a1 := Int.mul_nonneg bm.1 (show 0 ≤ d by omega)
    have a2 := Int.mul_le_mul_of_nonneg_right bm.2 (show 0 ≤ d by omega)
    omega
  have rc0 : 0 ≤ b * m * d / (b - 1) := Int.ediv_nonneg bmd.1 (by omega)
  have rc1 : b * m * d / (b - 1) ≤ b * m * d := Int.ediv_le_self _ bmd.1
  rw [hwp']
  walk_at "z"
  refine ⟨mulC_of (m := 5) (n := 4) (by omega) (by omega), mulC_of (m := 8) (n := 68) (by omega) (by omega), divC_of (n := 4) (by omega) (by omega), shl1C (by omega), ?_⟩
  refine great_cl h7 (by omega) (by omega) (by omega) fun g e8 g0 g1 h8 => ?_
  walk_at "z"
  refine ⟨by omega, ?_⟩
  refine pick_cl h8 (by omega) divL fun s1 e9 s0 s2 h9 => ?_
  walk_at "z"
  refine pick_cl h9 (by omega) divL fun u1 e10 u0 u2 h10 => ?_
  walk_at "z"
  refine pick_cl h10 (by omega) divL fun j1 e11 j0 j2 h11 => ?_
  walk_at "z"
  generalize hrc : b * m * d / (b - 1) = rc at *
  have gn0 := Int.emod_nonneg g (by omega : rc + 1 ≠ 0)
  have gn1 := Int.emod_lt_of_pos g (show 0 < rc + 1 by omega)
  refine so_atP (Bt (-4) (rc + 4)) j0 (by simpa using j2) (by simp only [List.mem_cons, List.not_mem_nil, or_false]; rintro x (rfl | rfl | rfl) <;> exact ⟨_, rfl, by omega, by omega⟩) fun x hx => ?_
  obtain ⟨r0, rfl, r00, r01⟩ := hx
  walk_at "z"
  refine pick_cl h11 (by omega) divL fun k1 e12 k0 k2 h12 => ?_
  walk_at "z"
  refine br_cut (fun s => ∃ r e7, s = [some e7, some (.tuple [.int b, .int m]), some (.tuple [.int t, .int p]), some (.int w), some (.int (2 ^ (w - 1))), some (.int (2 ^ (w - p))), some (.int d), some (.int rc), some (.int r)] ∧ Dk (n + 90) e7) (fun _ => ?_) (fun _ => ?_) ?_
  · walk_at "z"
    have q1 : (r0 / 2 ^ (w - p)).natAbs < 2 ^ 78 := by
      have a1 := Int.emod_add_mul_ediv r0 (2 ^ (w - p))
      have a2 := Int.emod_nonneg r0 (show (2 : Int) ^ (w - p) ≠ 0 by omega)
      have a3 := Int.emod_lt_of_pos r0 zq
      by_cases hs : 0 ≤ r0
      · have := Int.ediv_le_self (2 ^ (w - p)) hs
        have := Int.ediv_nonneg hs (Int.le_of_lt zq)
        omega
      · have h1 : -4 ≤ r0 / 2 ^ (w - p) := by
          have := Int.ediv_le_ediv zq r00
          have h2 : (-4 : Int) ≤ -4 / 2 ^ (w - p) := by
            rw [Int.le_ediv_iff_mul_le zq]
            omega
          omega
        have h3 : r0 / 2 ^ (w - p) < 0 := Int.ediv_neg_of_neg_of_pos (by omega) zq
        omega
    refine ⟨divC_of (n := 70) zq (by omega), mulC_of (m := 78) (n := 70) q1 (by omega), ?_⟩
    refine pick_cl h12 (by omega) divL fun c e13 c0 c1 h13 => ?_
    walk_at "z"
    exact ⟨_, _, rfl, h13.mono (by omega)⟩
  · walk_at "z"
    exact ⟨_, _, rfl, h12.mono (by omega)⟩
  rintro _ ⟨r, e14, rfl, h14⟩
  walk_at "z"
  refine pick_cl h14 (by omega) divL fun l1 e15 l0 l2 h15 => ?_
  walk_at "z"
  generalize hy : (if (if r < rc then r else rc) > 0 then (if r < rc then r else rc) else 0) = y
  have y0 : 0 ≤ y := by rw [← hy]; split <;> omega
  have y1 : y ≤ rc := by rw [← hy]; split <;> split <;> omega
  have yb : (b - 1) * y ≤ b * m * d := reach_le kb0 (by rw [hrc]; exact y1)
  have yn : 0 ≤ (b - 1) * y := Int.mul_nonneg (by omega) y0
  refine so_atP (fun x => x = .int 1 ∨ x = .int (-1)) l0 (by simpa using l2) (by simp) fun x hx => ?_
  rcases hx with rfl | rfl
  · walk_at "z"
    refine ⟨mulC_of (m := 78) (n := 2) (by omega) (by decide), ?_⟩
    rw [Int.mul_one]
    exact q w d y _ _ hw2 ⟨hwt, hwp, by omega, d00, d01, yb, by rw [Int.mul_neg]; omega⟩ (h15.mono (by omega))
  · walk_at "z"
    refine ⟨mulC_of (m := 78) (n := 2) (by omega) (by decide), ?_⟩
    refine q w d (y * -1) _ _ hw2 ⟨hwt, hwp, by omega, d00, d01, ?_, ?_⟩ (h15.mono (by omega))
    · rw [show y * -1 = -y by omega, Int.mul_neg]; omega
    · rw [show -(y * -1) = y by omega]; exact yb
theorem abs_mul {x y : Int} {m n : Nat} (hx : x.natAbs < 2 ^ m) (hy : y.natAbs < 2 ^ n) : (x * y).natAbs < 2 ^ (m + n) := by
  rw [Int.natAbs_mul, Nat.pow_add]
  exact Nat.mul_lt_mul_of_lt_of_lt hx hy
theorem abs_up {x : Int} {m n : Nat} (hx : x.natAbs < 2 ^ m) (h : m ≤ n := by decide) : x.natAbs < 2 ^ n := Nat.lt_of_lt_of_le hx (Nat.pow_le_pow_right (by omega) h)
/-- looks, a sight and a cell of bounded size -/
structure Cel (T P : Nat) (s t l : Int) : Prop where
  T10 : T ≤ 11
  P10 : P ≤ 11
  s1 : s = 1 ∨ s = 2
  t0 : 1 ≤ t
  t1 : t < 4096
  l0 : -1048576 ≤ l
  l1 : l ≤ 1048576
def eL (P : Nat) (t : Int) : Int := t * 2 ^ P
def eR (P : Nat) (t : Int) : Int := (t + 1) * 2 ^ P
def eLo (T : Nat) (l : Int) : Int := l * 2 ^ T
def eHi (T : Nat) (s l : Int) : Int := (l + s) * 2 ^ T
section
variable {T P : Nat} {s t l b m : Int}
theorem Cel.L (h : Cel T P s t l) : 0 < eL P t ∧ (eL P t).natAbs < 2 ^ 24 := ⟨Int.mul_pos (by have := h.t0; omega) (pow2_pos P), abs_mul (m := 12) (n := 12) (by have := h.t0; have := h.t1; omega) (pow2_abs (by have := h.P10; omega))⟩
theorem Cel.R (h : Cel T P s t l) : 0 < eR P t ∧ (eR P t).natAbs < 2 ^ 25 := ⟨Int.mul_pos (by have := h.t0; omega) (pow2_pos P), abs_mul (m := 13) (n := 12) (by have := h.t0; have := h.t1; omega) (pow2_abs (by have := h.P10; omega))⟩
theorem Cel.Lo (h : Cel T P s t l) : (eLo T l).natAbs < 2 ^ 33 := abs_mul (m := 21) (n := 12) (by have := h.l0; have := h.l1; omega) (pow2_abs (by have := h.T10; omega))
theorem Cel.Hi (h : Cel T P s t l) : (eHi T s l).natAbs < 2 ^ 33 := abs_mul (m := 21) (n := 12) (by have := h.l0; have := h.l1; rcases h.s1 with h | h <;> omega) (pow2_abs (by have := h.T10; omega))
theorem shl_ok {x : Int} {n : Nat} (hx : x.natAbs < 2 ^ 64) (h : n ≤ 1000) : shlC x n = true := shlC_of (m := 64) (by omega) hx (by omega)
theorem edges_cl {Q : D → List D → Prop} (h : Cel T P s t l) (q : ∀ as, Q (.tuple [.int (eL P t), .int (eR P t), .int (eLo T l), .int (eHi T s l)]) as) : Cl F_edges [.tuple [.int T, .int P], .int s, .tuple [.int t, .int l]] Q := by
  have := h.T10
  have := h.P10
  have := h.t0
  have := h.t1
  have := h.l0
  have := h.l1
  refine fn_cl rfl ?_
  unfold b_edges
  walk_at "e"
  exact ⟨shl_ok (by omega) (by omega), shl_ok (by omega) (by omega), shl_ok (by omega) (by omega), shl_ok (by rcases h.s1 with h | h <;> omega) (by omega), q _⟩
def met (b m : Int) (T P : Nat) (s t l : Int) : Bool := if 0 < eLo T l then decide ((b - 1) * eLo T l < b * m * eR P t) else if eHi T s l < 0 then decide ((b - 1) * -eHi T s l < b * m * eR P t) else true
theorem bm_abs (hk : Knd b m) : (b * m).natAbs < 2 ^ 8 := by
  obtain ⟨b0, b1, m0, m1⟩ := hk.b2
  have a1 := Int.mul_nonneg (show 0 ≤ b by omega) (show 0 ≤ m by omega)
  have a2 := Int.mul_le_mul (show b ≤ 16 by omega) (show m ≤ 15 by omega) (by omega) (by omega)
  omega
theorem met_cl {Q : D → List D → Prop} (hk : Knd b m) (h : Cel T P s t l) (q : ∀ as, Q (.bool (met b m T P s t l)) as) : Cl F_is_met [.tuple [.int b, .int m], .tuple [.int T, .int P], .int s, .tuple [.int t, .int l]] Q := by
  obtain ⟨b0, b1, m0, m1⟩ := hk.b2
  refine fn_cl rfl ?_
  unfold b_is_met
  walk_at "e"
  refine edges_cl h fun as => ?_
  walk_at "z"
  have hR := h.R
  have hLo := h.Lo
  have hHi := h.Hi
  have hbm := bm_abs hk
  refine ⟨mulC_of (m := 5) (n := 4) (by omega) (by omega), mulC_of (m := 8) (n := 25) hbm hR.2, ?_⟩
  unfold met at q
  refine br_d (fun h1 => ?_) fun h1 => ?_
  · rw [if_pos h1] at q
    walk_at "z"
    exact ⟨mulC_of (m := 5) (n := 33) (by omega) hLo, q _⟩
  · rw [if_neg h1] at q
    walk_at "z"
    refine br_d (fun h2 => ?_) fun h2 => ?_
    · rw [if_pos h2] at q
      walk_at "z"
      exact ⟨mulC_of (m := 5) (n := 33) (by omega) (by rw [Int.natAbs_neg]; exact hHi), q _⟩
    · rw [if_neg h2] at q
      walk_at "z"
      exact q _
/-- the figures that are good, by their ends -/
def gLo (b m : Int) (T P : Nat) (s t l : Int) : Int :=
  let st := if 0 < eHi T s l then eL P t else eR P t
  let x := -((m * st - (b - 1) * eHi T s l) / ((b - 1) * st))
  let y := if x < m then x else m
  if y > -m then y else -m
def gHi (b m : Int) (T P : Nat) (s t l : Int) : Int :=
  let fl := if eLo T l < 0 then eL P t else eR P t
  let x := ((b - 1) * eLo T l + m * fl) / ((b - 1) * fl)
  let y := if x > -m then x else -m
  if y < m then y else m
theorem gLo_in (m0 : 0 ≤ m) : -m ≤ gLo b m T P s t l ∧ gLo b m T P s t l ≤ m := by
  unfold gLo
  dsimp only
  split <;> split <;> omega
theorem gHi_in (m0 : 0 ≤ m) : -m ≤ gHi b m T P s t l ∧ gHi b m T P s t l ≤ m := by
  unfold gHi
  dsimp only
  split <;> split <;> omega
def good (b m : Int) (T P : Nat) (s t l : Int) : List D := if met b m T P s t l then rgD (gLo b m T P s t l) (gHi b m T P s t l + 1) else rgD (-m) (m + 1)
theorem good_cl {Q : D → List D → Prop} (hk : Knd b m) (h : Cel T P s t l) (q : ∀ as, Q (.list (good b m T P s t l)) as) : Cl F_good_figures [.tuple [.int b, .int m], .tuple [.int T, .int P], .int s, .tuple [.int t, .int l]] Q := by
  obtain ⟨b0, b1, m0, m1⟩ := hk.b2
  refine fn_cl rfl ?_
  unfold b_good_figures
  walk_at "e"
  refine met_cl hk h fun as => ?_
  unfold good at q
  walk_at "z"
  cases hm : met b m T P s t l with
  | false =>
    walk_at "z"
    rw [if_neg (by rw [hm]; decide)] at q
    exact ⟨by rw [rgC_eq]; omega, q _⟩
  | true =>
    rw [if_pos hm] at q
    walk_at "z"
    refine edges_cl h fun as => ?_
    walk_at "z"
    have hL := h.L
    have hR := h.R
    have hLo := h.Lo
    have hHi := h.Hi
    refine br_ev (.int (if 0 < eHi T s l then eL P t else eR P t)) (fun h1 => ?_) (fun h1 => ?_) ?_
    · walk_at "z"
      rw [if_pos (of_decide_eq_true h1)]
    · walk_at "z"
      rw [if_neg (of_decide_eq_false h1)]
    walk_at "z"
    refine br_ev (.int (if eLo T l < 0 then eL P t else eR P t)) (fun h1 => ?_) (fun h1 => ?_) ?_
    · walk_at "z"
      rw [if_pos (of_decide_eq_true h1)]
    · walk_at "z"
      rw [if_neg (of_decide_eq_false h1)]
    walk_at "z"
    have gl := gLo_in (b := b) (m := m) (T := T) (P := P) (s := s) (t := t) (l := l) (by omega)
    have gh := gHi_in (b := b) (m := m) (T := T) (P := P) (s := s) (t := t) (l := l) (by omega)
    have q := q
    unfold gLo at gl
    unfold gHi at gh
    unfold gLo gHi at q
    dsimp only at q gl gh
    have hst : 0 < (if 0 < eHi T s l then eL P t else eR P t) ∧ (if 0 < eHi T s l then eL P t else eR P t).natAbs < 2 ^ 25 := by
      split
      · exact ⟨hL.1, abs_up hL.2⟩
      · exact hR
    have hfl : 0 < (if eLo T l < 0 then eL P t else eR P t) ∧ (if eLo T l < 0 then eL P t else eR P t).natAbs < 2 ^ 25 := by
      split
      · exact ⟨hL.1, abs_up hL.2⟩
      · exact hR
    generalize (if 0 < eHi T s l then eL P t else eR P t) = st at *
    generalize (if eLo T l < 0 then eL P t else eR P t) = fl at *
    have b5 : (b - 1).natAbs < 2 ^ 4 := by omega
    refine ⟨mulC_of (m := 4) (n := 25) (by omega) hst.2, mulC_of (m := 4) (n := 33) b5 hHi, mulC_of (m := 4) (n := 25) b5 hst.2, divC_of (n := 29) (Int.mul_pos (by omega) hst.1) (abs_mul (m := 4) (n := 25) b5 hst.2),
      mulC_of (m := 4) (n := 33) b5 hLo, mulC_of (m := 4) (n := 25) (by omega) hfl.2, mulC_of (m := 4) (n := 25) b5 hfl.2, divC_of (n := 29) (Int.mul_pos (by omega) hfl.1) (abs_mul (m := 4) (n := 25) b5 hfl.2), ?_, q _⟩
    rw [rgC_eq]
    omega
/-- when a figure is good -/
theorem gLo_iff {q : Int} (hk : Knd b m) (h : Cel T P s t l) (q0 : -m ≤ q) (q1 : q ≤ m) : gLo b m T P s t l ≤ q ↔ (q = m ∨ eHi T s l * (b - 1) ≤ (q * (b - 1) + m) * (if 0 ≤ q * (b - 1) + m then eL P t else eR P t)) := by
  obtain ⟨b0, b1, m0, m1⟩ := hk.b2
  have hL := h.L.1
  have hR := h.R.1
  unfold gLo
  dsimp only
  generalize hst : (if 0 < eHi T s l then eL P t else eR P t) = st
  have st0 : 0 < st := by rw [← hst]; split <;> assumption
  have d0 : 0 < (b - 1) * st := Int.mul_pos (by omega) st0
  have key : -((m * st - (b - 1) * eHi T s l) / ((b - 1) * st)) ≤ q ↔ eHi T s l * (b - 1) ≤ (q * (b - 1) + m) * st := by
    have e1 : -((m * st - (b - 1) * eHi T s l) / ((b - 1) * st)) ≤ q ↔ -q ≤ (m * st - (b - 1) * eHi T s l) / ((b - 1) * st) := by omega
    rw [e1, Int.le_ediv_iff_mul_le d0]
    have e2 : -q * ((b - 1) * st) = -(q * (b - 1) * st) := by rw [Int.neg_mul, Int.mul_assoc]
    have e3 : (q * (b - 1) + m) * st = q * (b - 1) * st + m * st := Int.add_mul _ _ _
    have e4 : eHi T s l * (b - 1) = (b - 1) * eHi T s l := Int.mul_comm _ _
    omega
  have same : eHi T s l * (b - 1) ≤ (q * (b - 1) + m) * st ↔ eHi T s l * (b - 1) ≤ (q * (b - 1) + m) * (if 0 ≤ q * (b - 1) + m then eL P t else eR P t) := by
    generalize q * (b - 1) + m = u
    subst hst
    by_cases hh : 0 < eHi T s l
    · have hp : 0 < eHi T s l * (b - 1) := Int.mul_pos hh (by omega)
      rw [if_pos hh]
      by_cases hu : 0 ≤ u
      · rw [if_pos hu]
      · rw [if_neg hu]
        have a1 : u * eL P t < 0 := Int.mul_neg_of_neg_of_pos (by omega) hL
        have a2 : u * eR P t < 0 := Int.mul_neg_of_neg_of_pos (by omega) hR
        omega
    · have hp : eHi T s l * (b - 1) ≤ 0 := Int.mul_nonpos_of_nonpos_of_nonneg (by omega) (by omega)
      rw [if_neg hh]
      by_cases hu : 0 ≤ u
      · rw [if_pos hu]
        have a1 : 0 ≤ u * eL P t := Int.mul_nonneg hu (by omega)
        have a2 : 0 ≤ u * eR P t := Int.mul_nonneg hu (by omega)
        omega
      · rw [if_neg hu]
  rw [← same, ← key]
  generalize -((m * st - (b - 1) * eHi T s l) / ((b - 1) * st)) = x
  constructor
  · intro hx
    split at hx <;> split at hx <;> omega
  · intro hx
    split <;> split <;> omega
theorem gHi_iff {q : Int} (hk : Knd b m) (h : Cel T P s t l) (q0 : -m ≤ q) (q1 : q ≤ m) : q ≤ gHi b m T P s t l ↔ (q = -m ∨ (q * (b - 1) - m) * (if 0 ≤ q * (b - 1) - m then eR P t else eL P t) ≤ eLo T l * (b - 1)) := by
  obtain ⟨b0, b1, m0, m1⟩ := hk.b2
  have hL := h.L.1
  have hR := h.R.1
  unfold gHi
  dsimp only
  generalize hst : (if eLo T l < 0 then eL P t else eR P t) = st
  have st0 : 0 < st := by rw [← hst]; split <;> assumption
  have d0 : 0 < (b - 1) * st := Int.mul_pos (by omega) st0
  have key : q ≤ ((b - 1) * eLo T l + m * st) / ((b - 1) * st) ↔ (q * (b - 1) - m) * st ≤ eLo T l * (b - 1) := by
    rw [Int.le_ediv_iff_mul_le d0]
    have e2 : q * ((b - 1) * st) = q * (b - 1) * st := by rw [Int.mul_assoc]
    have e3 : (q * (b - 1) - m) * st = q * (b - 1) * st - m * st := Int.sub_mul _ _ _
    have e4 : eLo T l * (b - 1) = (b - 1) * eLo T l := Int.mul_comm _ _
    omega
  have same : (q * (b - 1) - m) * st ≤ eLo T l * (b - 1) ↔ (q * (b - 1) - m) * (if 0 ≤ q * (b - 1) - m then eR P t else eL P t) ≤ eLo T l * (b - 1) := by
    generalize q * (b - 1) - m = u
    subst hst
    by_cases hh : eLo T l < 0
    · have hp : eLo T l * (b - 1) < 0 := Int.mul_neg_of_neg_of_pos hh (by omega)
      rw [if_pos hh]
      by_cases hu : 0 ≤ u
      · rw [if_pos hu]
        have a1 : 0 ≤ u * eL P t := Int.mul_nonneg hu (by omega)
        have a2 : 0 ≤ u * eR P t := Int.mul_nonneg hu (by omega)
        omega
      · rw [if_neg hu]
    · have hp : 0 ≤ eLo T l * (b - 1) := Int.mul_nonneg (by omega) (by omega)
      rw [if_neg hh]
      by_cases hu : 0 ≤ u
      · rw [if_pos hu]
      · rw [if_neg hu]
        have a1 : u * eL P t < 0 := Int.mul_neg_of_neg_of_pos (by omega) hL
        have a2 : u * eR P t < 0 := Int.mul_neg_of_neg_of_pos (by omega) hR
        omega
  rw [← same, ← key]
  generalize ((b - 1) * eLo T l + m * st) / ((b - 1) * st) = x
  constructor
  · intro hx
    split at hx <;> split at hx <;> omega
  · intro hx
    split <;> split <;> omega
end
theorem rgD_nil {a c : Int} (h : c ≤ a) : rgD a c = [] := by
  unfold rgD
  rw [show (c - a).toNat = 0 by omega]
  rfl
theorem rgD_snoc {a c : Int} (h : a ≤ c) : rgD a c ++ [.int c] = rgD a (c + 1) := by
  unfold rgD
  rw [show (c + 1 - a).toNat = (c - a).toNat + 1 by omega, List.range_succ, List.map_append]
  congr 1
  simp
  omega
theorem good_len {b m : Int} {T P : Nat} {s t l : Int} (hk : Knd b m) : (good b m T P s t l).length ≤ 31 := by
  obtain ⟨kb0, kb1, km0, km1⟩ := hk.b2
  have gl := gLo_in (b := b) (m := m) (T := T) (P := P) (s := s) (t := t) (l := l) (by omega)
  have gh := gHi_in (b := b) (m := m) (T := T) (P := P) (s := s) (t := t) (l := l) (by omega)
  unfold good
  split <;> rw [rgD_len] <;> omega
theorem good_shp {b m : Int} {T P : Nat} {s t l : Int} : shp 1 (.list (good b m T P s t l)) = true := by
  unfold good
  split <;> exact shp_rg _ _
theorem good_mem {b m : Int} {T P : Nat} {s t l : Int} {d : D} (h : d ∈ good b m T P s t l) : ∃ q, d = .int q := by
  unfold good rgD at h
  split at h <;> (obtain ⟨i, _, rfl⟩ := List.mem_map.mp h; exact ⟨_, rfl⟩)
theorem ints_item {ns : List Int} {lo hi : Option Int} {i : Nat} {d : D} (h : (cutD (ns.map PyData.int) lo hi ++ [.int 0])[i]? = some d) : ∃ z, d = .int z := by
  have := List.mem_of_getElem? h
  rw [List.mem_append] at this
  rcases this with h | h
  · obtain ⟨j, hj⟩ := List.getElem?_of_mem h
    obtain ⟨z, _, rfl⟩ := List.mem_map.mp (cut_mem hj)
    exact ⟨z, rfl⟩
  · exact ⟨0, by simpa using h⟩
theorem cut_len {l : List D} {lo hi : Option Int} : (cutD l lo hi).length ≤ l.length := by
  unfold cutD
  rw [List.length_take, List.length_drop]
  omega
theorem first_at (ns : List Int) : ∃ z, atI (ns.map PyData.int ++ [.int 0]) 0 = some (.int z) := by
  cases ns with
  | nil => exact ⟨0, at0⟩
  | cons a l => exact ⟨a, at0⟩
/-! serving -/
def sv (b m d r q : Int) : Bool := decide ((b - 1) * (if r - q * d < 0 then -(r - q * d) else r - q * d) ≤ m * d)
theorem serves_cl {b m q r d w : Int} {Q : D → List D → Prop} (hk : Knd b m) (hq : q.natAbs < 2 ^ 4) (hd : d.natAbs < 2 ^ 120) (hr : r.natAbs < 2 ^ 140) (k : ∀ as, Q (.bool (sv b m d r q)) as) : Cl F_serves [.tuple [.int b, .int m], .int q, .tuple [.int w, .int d, .int r]] Q := by
  obtain ⟨b0, b1, m0, m1⟩ := hk.b2
  refine fn_cl rfl ?_
  unfold b_serves
  walk_at "e"
  have hqd : (q * d).natAbs < 2 ^ 124 := abs_mul (m := 4) (n := 120) hq hd
  exact ⟨mulC_of (m := 4) (n := 120) hq hd, mulC_of (m := 4) (n := 141) (by omega) (by split <;> omega), mulC_of (m := 4) (n := 120) (by omega) hd, k _⟩
theorem sv_iff {b m d r q : Int} (hb : 2 ≤ b) : sv b m d r q = true ↔ (b - 1) * (r - q * d) ≤ m * d ∧ (b - 1) * (q * d - r) ≤ m * d := by
  unfold sv
  rw [decide_eq_true_iff, show q * d - r = -(r - q * d) by omega]
  generalize r - q * d = x
  rw [Int.mul_neg]
  by_cases h : x < 0
  · rw [if_pos h, Int.mul_neg]
    have : (b - 1) * x ≤ 0 := Int.mul_nonpos_of_nonneg_of_nonpos (by omega) (by omega)
    omega
  · rw [if_neg h]
    have : 0 ≤ (b - 1) * x := Int.mul_nonneg (by omega) (by omega)
    omega
theorem sv_conv {b m d r i j k : Int} (hb : 2 ≤ b) (hd : 0 < d) (h1 : i ≤ k) (h2 : k ≤ j) (hi : sv b m d r i = true) (hj : sv b m d r j = true) : sv b m d r k = true := by
  rw [sv_iff hb] at *
  have a1 : i * d ≤ k * d := Int.mul_le_mul_of_nonneg_right h1 (by omega)
  have a2 : k * d ≤ j * d := Int.mul_le_mul_of_nonneg_right h2 (by omega)
  have a3 := Int.mul_le_mul_of_nonneg_left (show r - k * d ≤ r - i * d by omega) (show 0 ≤ b - 1 by omega)
  have a4 := Int.mul_le_mul_of_nonneg_left (show k * d - r ≤ j * d - r by omega) (show 0 ≤ b - 1 by omega)
  omega
theorem sv_ex {b m d r : Int} (hk : Knd b m) (hd : 0 < d) (h1 : (b - 1) * r ≤ b * m * d) (h2 : (b - 1) * (-r) ≤ b * m * d) : ∃ q, -m ≤ q ∧ q ≤ m ∧ sv b m d r q = true := by
  obtain ⟨b0, b1, m0, m1⟩ := hk.b2
  have hlo := hk.lo
  have e0 : b * m * d = (b - 1) * (m * d) + m * d := by
    rw [Int.sub_mul, Int.mul_assoc]
    omega
  by_cases c1 : m * d < r
  · refine ⟨m, by omega, by omega, (sv_iff b0).mpr ⟨?_, ?_⟩⟩
    · rw [Int.mul_sub]; omega
    · have := Int.mul_le_mul_of_nonneg_left (show m * d - r ≤ 0 by omega) (show 0 ≤ b - 1 by omega)
      have := Int.mul_nonneg (show 0 ≤ m by omega) (Int.le_of_lt hd)
      omega
  · by_cases c2 : r < -(m * d)
    · have e1 : -m * d = -(m * d) := Int.neg_mul _ _
      refine ⟨-m, by omega, by omega, (sv_iff b0).mpr ⟨?_, ?_⟩⟩
      · have := Int.mul_le_mul_of_nonneg_left (show r - -m * d ≤ 0 by omega) (show 0 ≤ b - 1 by omega)
        have := Int.mul_nonneg (show 0 ≤ m by omega) (Int.le_of_lt hd)
        omega
      · rw [e1, show -(m * d) - r = -r - m * d by omega, Int.mul_sub]; omega
    · have d2 : 0 < 2 * d := by omega
      have a1 := Int.emod_add_mul_ediv (2 * r + d) (2 * d)
      have a2 := Int.emod_nonneg (2 * r + d) (show 2 * d ≠ 0 by omega)
      have a3 := Int.emod_lt_of_pos (2 * r + d) d2
      have q1 : (2 * r + d) / (2 * d) < m + 1 := by
        rw [Int.ediv_lt_iff_lt_mul d2, Int.add_mul, Int.mul_left_comm]
        omega
      have q2 : -m ≤ (2 * r + d) / (2 * d) := by
        rw [Int.le_ediv_iff_mul_le d2, Int.neg_mul, Int.mul_left_comm]
        omega
      generalize (2 * r + d) / (2 * d) = q at *
      generalize (2 * r + d) % (2 * d) = x at *
      rw [Int.mul_assoc, Int.mul_comm d q] at a1
      have a4 : (b - 1) * d ≤ 2 * (m * d) := by
        have := Int.mul_le_mul_of_nonneg_right (show b - 1 ≤ 2 * m by omega) (Int.le_of_lt hd)
        rw [Int.mul_assoc] at this
        exact this
      refine ⟨q, q2, by omega, (sv_iff b0).mpr ⟨?_, ?_⟩⟩
      · have := Int.mul_le_mul_of_nonneg_left (show 2 * (r - q * d) ≤ d by omega) (show 0 ≤ b - 1 by omega)
        rw [Int.mul_left_comm] at this
        omega
      · have := Int.mul_le_mul_of_nonneg_left (show 2 * (q * d - r) ≤ d by omega) (show 0 ≤ b - 1 by omega)
        rw [Int.mul_left_comm] at this
        omega
theorem iff_not_mpr {a b : Prop} (h : a ↔ b) (n : ¬ a) : ¬ b := fun z => n (h.mpr z)
section
variable {T P : Nat} {s t l b m : Int}
theorem lr_cl {y : Int} {Q : D → List D → Prop} (hk : Knd b m) (hy : y.natAbs < 2 ^ 70) (q : ∀ as, Q (.int (Qm.lrch (b - 1) (b * m) y)) as) : Cl F_least_reaching [.tuple [.int b, .int m], .int y] Q := by
  obtain ⟨b0, b1, m0, m1⟩ := hk.b2
  refine fn_cl rfl ?_
  unfold b_least_reaching
  walk_at "e"
  have c0 : 0 < b * m := Int.mul_pos (by omega) (by omega)
  exact ⟨mulC_of (m := 4) (n := 70) (by omega) hy, mulC_of (m := 5) (n := 4) (by omega) (by omega), divC_of (n := 8) c0 (bm_abs hk), q _⟩
def pts (w : Int) (l : List (Int × Int)) : List D := l.map fun p => .tuple [.int w, .int p.1, .int p.2]
theorem lrch_abs {y : Int} {n : Nat} (hk : Knd b m) (hy : y.natAbs < 2 ^ n) : (Qm.lrch (b - 1) (b * m) y).natAbs ≤ 2 ^ n := by
  obtain ⟨b0, b1, m0, m1⟩ := hk.b2
  have c0 : b ≤ b * m := by
    have := Int.mul_le_mul_of_nonneg_left m0 (show 0 ≤ b by omega)
    omega
  obtain ⟨h1, h2⟩ := Qm.lrch_spec (k := b - 1) (c := b * m) (y := y) (by omega)
  generalize Qm.lrch (b - 1) (b * m) y = x at *
  generalize b * m = c at *
  have hx1 : x ≤ y.natAbs + 1 := by
    by_cases hx : x ≤ 1
    · omega
    · have a1 : c * (x - 1) < (b - 1) * y := by rw [Int.mul_sub]; omega
      have a2 : (b - 1) * (x - 1) ≤ c * (x - 1) := Int.mul_le_mul_of_nonneg_right (by omega) (by omega)
      have := Int.lt_of_mul_lt_mul_left (Int.lt_of_le_of_lt a2 a1) (by omega)
      omega
  have hx2 : -(y.natAbs : Int) ≤ x := by
    by_cases hx : 0 ≤ x
    · omega
    · have a2 : c * x ≤ (b - 1) * x := Int.mul_le_mul_of_nonpos_right (by omega) (by omega)
      have := Int.le_of_mul_le_mul_left (Int.le_trans h1 a2) (by omega)
      omega
  omega
theorem ep1_len {k c f g lo hi : Int} : ∀ xs : List Int, (xs.flatMap (Qm.ep1 k c f g lo hi)).length ≤ 2 * xs.length
  | [] => by simp
  | x :: xs => by
    rw [List.flatMap_cons, List.length_append, List.length_cons]
    have := ep1_len (k := k) (c := c) (f := f) (g := g) (lo := lo) (hi := hi) xs
    have h1 : (Qm.ep1 k c f g lo hi x).length ≤ 2 := by
      unfold Qm.ep1
      split <;> simp
    omega
/-- the edges at a width -/
abbrev fi (T : Nat) (t : Int) (w : Nat) : Int := t * 2 ^ (w - T)
abbrev la (T : Nat) (t : Int) (w : Nat) : Int := (t + 1) * 2 ^ (w - T) - 1
abbrev lw (P : Nat) (l : Int) (w : Nat) : Int := l * 2 ^ (w - P)
abbrev hg (P : Nat) (s l : Int) (w : Nat) : Int := (l + s) * 2 ^ (w - P) - 1
abbrev epw (b m : Int) (T P : Nat) (s t l : Int) (w : Nat) : List (Int × Int) := Qm.eps (b - 1) (b * m) (fi T t w) (la T t w) (lw P l w) (hg P s l w)
theorem edge_cl {w : Nat} {Q : D → List D → Prop} (hk : Knd b m) (h : Cel T P s t l) (hT : T ≤ w) (hP : P ≤ w) (hw : w ≤ 40) (q : ∀ as, Q (.list (pts w (epw b m T P s t l w))) as) : Cl F_edge_points [.tuple [.int b, .int m], .tuple [.int T, .int P], .int s, .tuple [.int t, .int l], .int w] Q := by
  obtain ⟨b0, b1, m0, m1⟩ := hk.b2
  have h1 := h.t0
  have h2 := h.t1
  have h3 := h.l0
  have h4 := h.l1
  have h5 := h.s1
  refine fn_cl rfl ?_
  unfold b_edge_points
  walk_at "e"
  rw [show (w : Int) - T = ((w - T : Nat) : Int) by omega, show (w : Int) - P = ((w - P : Nat) : Int) by omega]
  walk_at "z"
  refine ⟨shl_ok (by omega) (by omega), shl_ok (by omega) (by omega), shl_ok (by omega) (by omega), shl_ok (by omega) (by omega), ?_⟩
  have pT : ((2 : Int) ^ (w - T)).natAbs < 2 ^ 41 := pow2_abs (by omega)
  have pP : ((2 : Int) ^ (w - P)).natAbs < 2 ^ 41 := pow2_abs (by omega)
  have e_fi : fi T t w = t * 2 ^ (w - T) := rfl
  have e_la : la T t w = (t + 1) * 2 ^ (w - T) - 1 := rfl
  have e_lw : lw P l w = l * 2 ^ (w - P) := rfl
  have e_hg : hg P s l w = (l + s) * 2 ^ (w - P) - 1 := rfl
  have a1 : (fi T t w).natAbs < 2 ^ 54 := abs_mul (m := 13) (n := 41) (by omega) pT
  have a2 : ((t + 1) * 2 ^ (w - T)).natAbs < 2 ^ 54 := abs_mul (m := 13) (n := 41) (by omega) pT
  have a3 : (lw P l w).natAbs < 2 ^ 62 := abs_mul (m := 21) (n := 41) (by omega) pP
  have a4 : ((l + s) * 2 ^ (w - P)).natAbs < 2 ^ 62 := abs_mul (m := 21) (n := 41) (by omega) pP
  refine lr_cl hk (by omega) fun as => ?_
  walk_at "z"
  refine lr_cl hk (by omega) fun as => ?_
  walk_at "z"
  have a5 := lrch_abs (n := 62) hk a3
  have a6 := lrch_abs (n := 63) (y := -(hg P s l w)) hk (by omega)
  have bm0 := bm_abs hk
  have hx4 : ∀ x ∈ [fi T t w, la T t w, Qm.lrch (b - 1) (b * m) (lw P l w), Qm.lrch (b - 1) (b * m) (-(hg P s l w))], x.natAbs < 2 ^ 64 := by
    simp only [List.mem_cons, List.not_mem_nil, or_false]
    rintro x (rfl | rfl | rfl | rfl) <;> omega
  refine for_it (fun i st => ∃ x10 x13 x14 x15, st = [some (.tuple [.int b, .int m]), some (.tuple [.int T, .int P]), some (.int s), some (.tuple [.int t, .int l]), some (.int w), some (.int (fi T t w)), some (.int (la T t w)), some (.int (lw P l w)), some (.int (hg P s l w)), some (.list (pts w (([fi T t w, la T t w, Qm.lrch (b - 1) (b * m) (lw P l w), Qm.lrch (b - 1) (b * m) (-(hg P s l w))].take i).flatMap (Qm.ep1 (b - 1) (b * m) (fi T t w) (la T t w) (lw P l w) (hg P s l w))))), x10, some (.int t), some (.int l), x13, x14, x15]) ⟨_, _, _, _, rfl⟩ ?_ ?_
  · rintro i d _ hd ⟨x10, x13, x14, x15, rfl⟩
    have hd2 : ([fi T t w, la T t w, Qm.lrch (b - 1) (b * m) (lw P l w), Qm.lrch (b - 1) (b * m) (-(hg P s l w))].map PyData.int)[i]? = some d := hd
    rw [List.getElem?_map] at hd2
    generalize hxs : [fi T t w, la T t w, Qm.lrch (b - 1) (b * m) (lw P l w), Qm.lrch (b - 1) (b * m) (-(hg P s l w))] = xs at *
    have hxl : xs.length = 4 := by rw [← hxs]; rfl
    cases hx : xs[i]? with
    | none => rw [hx] at hd2; cases hd2
    | some x =>
      rw [hx] at hd2
      cases hd2
      have hxm := hx4 x (List.mem_of_getElem? hx)
      have ht : xs.take (i + 1) = xs.take i ++ [x] := by rw [List.take_add_one, hx]; rfl
      have hi : i < 4 := by rw [← hxl]; exact (List.getElem?_eq_some_iff.mp hx).1
      have hlen := ep1_len (k := b - 1) (c := b * m) (f := fi T t w) (g := la T t w) (lo := lw P l w) (hi := hg P s l w) (xs.take i)
      rw [List.length_take] at hlen
      rw [ht, List.flatMap_append, List.flatMap_singleton]
      walk_at "z"
      refine ⟨mulC_of (m := 5) (n := 4) (by omega) (by omega), mulC_of (m := 8) (n := 64) bm0 hxm, divC_of (n := 4) (by omega) (by omega), ?_⟩
      have e1 : (if -(b * m * x / (b - 1)) > lw P l w then -(b * m * x / (b - 1)) else lw P l w) = Qm.bot (b - 1) (b * m) (lw P l w) x := rfl
      have e2 : (if b * m * x / (b - 1) < hg P s l w then b * m * x / (b - 1) else hg P s l w) = Qm.pk (b - 1) (b * m) (hg P s l w) x := rfl
      have no : ¬ (fi T t w ≤ x ∧ x ≤ la T t w ∧ Qm.bot (b - 1) (b * m) (lw P l w) x ≤ Qm.pk (b - 1) (b * m) (hg P s l w) x) → Qm.ep1 (b - 1) (b * m) (fi T t w) (la T t w) (lw P l w) (hg P s l w) x = [] := fun h => if_neg h
      have yes : (fi T t w ≤ x ∧ x ≤ la T t w ∧ Qm.bot (b - 1) (b * m) (lw P l w) x ≤ Qm.pk (b - 1) (b * m) (hg P s l w) x) → Qm.ep1 (b - 1) (b * m) (fi T t w) (la T t w) (lw P l w) (hg P s l w) x = [(x, Qm.bot (b - 1) (b * m) (lw P l w) x), (x, Qm.pk (b - 1) (b * m) (hg P s l w) x)] := fun h => if_pos h
      refine br_d (fun c1 => ?_) fun c1 => ?_
      · walk_at "z"
        refine br_d (fun c2 => ?_) fun c2 => ?_
        · walk_at "z"
          refine br_d (fun c3 => ?_) fun c3 => ?_
          · walk_at "z"
            rw [yes ⟨c1, c2, c3⟩]
            have epp : ∀ (A : List (Int × Int)) (p1 p2 : Int × Int), pts w (A ++ [p1, p2]) = pts w A ++ [.tuple [.int w, .int p1.1, .int p1.2], .tuple [.int w, .int p2.1, .int p2.2]] := fun A p1 p2 => by
              unfold pts
              rw [List.map_append]
              rfl
            rw [epp]
            refine ⟨?_, _, _, _, _, rfl⟩
            rw [fits_eq]
            unfold pts
            rw [List.length_map]
            omega
          · walk_at "z"
            rw [no fun z => c3 z.2.2, List.append_nil]
            exact ⟨_, _, _, _, rfl⟩
        · walk_at "z"
          rw [no fun z => c2 z.2.1, List.append_nil]
          exact ⟨_, _, _, _, rfl⟩
      · walk_at "z"
        rw [no fun z => c1 z.1, List.append_nil]
        exact ⟨_, _, _, _, rfl⟩
  · rintro _ ⟨x10, x13, x14, x15, rfl⟩
    walk_at "z"
    have e : (([fi T t w, la T t w, Qm.lrch (b - 1) (b * m) (lw P l w), Qm.lrch (b - 1) (b * m) (-(hg P s l w))].take 4).flatMap (Qm.ep1 (b - 1) (b * m) (fi T t w) (la T t w) (lw P l w) (hg P s l w))) = epw b m T P s t l w := by
      unfold epw Qm.eps
      simp [List.flatMap_cons]
    rw [← e] at q
    exact q _
/-- a point that shows the cell -/
structure Shw (b m : Int) (T P : Nat) (s t l : Int) (w : Nat) (x y : Int) : Prop where
  wT : T ≤ w
  wP : P ≤ w
  w40 : w ≤ 40
  x0 : 2 ^ (w - 1) ≤ x
  x1 : x < 2 ^ w
  y0 : (b - 1) * y ≤ b * m * x
  y1 : (b - 1) * -y ≤ b * m * x
  top : x / 2 ^ (w - T) = t
  lo : l ≤ y / 2 ^ (w - P)
  hi : y / 2 ^ (w - P) < l + s
theorem shw_of {w : Nat} {p : Int × Int} (hk : Knd b m) (hT : T ≤ w) (hP : P ≤ w) (hw : w ≤ 40) (T1 : 1 ≤ T) (t0 : 2 ^ (T - 1) ≤ t) (t1 : t < 2 ^ T) (h : p ∈ epw b m T P s t l w) : Shw b m T P s t l w p.1 p.2 := by
  obtain ⟨b0, b1, m0, m1⟩ := hk.b2
  obtain ⟨h1, h2, h3, h4, h5, h6⟩ := Qm.of_eps h
  have zT := pow2_pos (w - T)
  have zP := pow2_pos (w - P)
  have e1 : (2 : Int) ^ (w - 1) = 2 ^ (T - 1) * 2 ^ (w - T) := by rw [← Int.pow_add]; congr 1; omega
  have e2 : (2 : Int) ^ w = 2 ^ T * 2 ^ (w - T) := by rw [← Int.pow_add]; congr 1; omega
  have g1 := Int.mul_le_mul_of_nonneg_right t0 (Int.le_of_lt zT)
  have g2 := Int.mul_le_mul_of_nonneg_right (show t + 1 ≤ 2 ^ T by omega) (Int.le_of_lt zT)
  have e_fi : fi T t w = t * 2 ^ (w - T) := rfl
  have e_la : la T t w = (t + 1) * 2 ^ (w - T) - 1 := rfl
  have e_lw : lw P l w = l * 2 ^ (w - P) := rfl
  have e_hg : hg P s l w = (l + s) * 2 ^ (w - P) - 1 := rfl
  refine ⟨hT, hP, hw, by omega, by omega, (Qm.le_rch (by omega)).mp h6, (Qm.le_rch (by omega)).mp (by omega), ?_, ?_, ?_⟩
  · apply Int.le_antisymm
    · have := Int.ediv_lt_of_lt_mul zT (show p.1 < (t + 1) * 2 ^ (w - T) by omega)
      omega
    · rw [Int.le_ediv_iff_mul_le zT]
      omega
  · rw [Int.le_ediv_iff_mul_le zP]
    omega
  · exact Int.ediv_lt_of_lt_mul zP (by omega)
theorem met_sc (hk : Knd b m) (h : Cel T P s t l) (hm : met b m T P s t l = true) : Qm.Sc (b - 1) (b * m) (eL P t) (eR P t) (eLo T l) (eHi T s l) 1024 := by
  obtain ⟨b0, b1, m0, m1⟩ := hk.b2
  have hL := h.L.1
  have hs : eLo T l < eHi T s l := by
    unfold eLo eHi
    exact Int.mul_lt_mul_of_pos_right (by rcases h.s1 with h | h <;> omega) (pow2_pos T)
  have hLR : eL P t < eR P t := by
    unfold eL eR
    exact Int.mul_lt_mul_of_pos_right (by omega) (pow2_pos P)
  have hbm := bm_abs hk
  have c0 : b ≤ b * m := by
    have := Int.mul_le_mul_of_nonneg_left m0 (show 0 ≤ b by omega)
    omega
  unfold met at hm
  have hbm2 : b * m ≤ 240 := by
    have a2 := Int.mul_le_mul (show b ≤ 16 by omega) (show m ≤ 15 by omega) (by omega) (by omega)
    omega
  refine ⟨by omega, by omega, by omega, hbm2, by omega, hLR, hs, rfl, fun z => ?_, fun z => ?_⟩
  · rw [if_pos z] at hm
    exact of_decide_eq_true hm
  · rw [if_neg (by omega), if_pos z] at hm
    exact of_decide_eq_true hm
theorem epw_at : epw b m T P s t l (T + P + 10) = Qm.eps (b - 1) (b * m) (eL P t * 1024) (eR P t * 1024 - 1) (eLo T l * 1024) (eHi T s l * 1024 - 1) := by
  have e1 : (2 : Int) ^ (P + 10) = 2 ^ P * 1024 := by rw [Int.pow_add]; rfl
  have e2 : (2 : Int) ^ (T + 10) = 2 ^ T * 1024 := by rw [Int.pow_add]; rfl
  unfold epw fi la lw hg eL eR eLo eHi
  rw [show T + P + 10 - T = P + 10 by omega, show T + P + 10 - P = T + 10 by omega, e1, e2]
  simp only [Int.mul_assoc]
/-- below the good figures: a point that lies too high for all of them -/
theorem spoil_up {q : Int} (hk : Knd b m) (h : Cel T P s t l) (hm : met b m T P s t l = true) (q0 : -m ≤ q) (q1 : q ≤ m) (hq : q < gLo b m T P s t l) : ∃ p ∈ epw b m T P s t l (T + P + 10), ∀ q', q' ≤ q → sv b m p.1 p.2 q' = false := by
  obtain ⟨b0, b1, m0, m1⟩ := hk.b2
  have hn := iff_not_mpr (gLo_iff hk h q0 q1) (by omega)
  have hn1 : q ≠ m := fun z => hn (.inl z)
  have hn2 : ¬ eHi T s l * (b - 1) ≤ (q * (b - 1) + m) * (if 0 ≤ q * (b - 1) + m then eL P t else eR P t) := fun z => hn (.inr z)
  have k1 := Int.mul_le_mul_of_nonneg_right (show q ≤ m - 1 by omega) (show 0 ≤ b - 1 by omega)
  have k2 := Int.mul_le_mul_of_nonneg_right q0 (show 0 ≤ b - 1 by omega)
  have e3 : (m - 1) * (b - 1) = b * m - m - (b - 1) := by rw [Int.sub_mul, Int.mul_sub, Int.mul_comm m b]; omega
  have e4 : -m * (b - 1) = -(b * m) + m := by rw [Int.mul_sub, Int.neg_mul, Int.mul_comm m b]; omega
  have hbm2 : b * m ≤ 240 := by
    have a2 := Int.mul_le_mul (show b ≤ 16 by omega) (show m ≤ 15 by omega) (by omega) (by omega)
    omega
  have sc := met_sc hk h hm
  obtain ⟨p, hp, hv⟩ := sc.up (u := q * (b - 1) + m) (by omega) (by omega) (by rw [Int.mul_comm (b - 1)]; omega)
  refine ⟨p, by rw [epw_at]; exact hp, fun q' hq' => ?_⟩
  have hx := (Qm.of_eps hp).1
  have hL := h.L.1
  have hb : ¬ sv b m p.1 p.2 q' = true := fun z => by
    have z1 := ((sv_iff b0).mp z).1
    have a1 := Int.mul_le_mul_of_nonneg_right (show q' * (b - 1) + m ≤ q * (b - 1) + m by
      have := Int.mul_le_mul_of_nonneg_right hq' (show 0 ≤ b - 1 by omega)
      omega) (show 0 ≤ p.1 by omega)
    rw [Int.mul_sub, show (b - 1) * (q' * p.1) = q' * (b - 1) * p.1 by rw [← Int.mul_assoc, Int.mul_comm (b - 1)]] at z1
    rw [Int.add_mul] at a1
    omega
  cases hs : sv b m p.1 p.2 q' with
  | true => exact absurd hs hb
  | false => rfl
theorem spoil_dn {q : Int} (hk : Knd b m) (h : Cel T P s t l) (hm : met b m T P s t l = true) (q0 : -m ≤ q) (q1 : q ≤ m) (hq : gHi b m T P s t l < q) : ∃ p ∈ epw b m T P s t l (T + P + 10), ∀ q', q ≤ q' → sv b m p.1 p.2 q' = false := by
  obtain ⟨b0, b1, m0, m1⟩ := hk.b2
  have hn := iff_not_mpr (gHi_iff hk h q0 q1) (by omega)
  have hn1 : q ≠ -m := fun z => hn (.inl z)
  have hn2 : ¬ (q * (b - 1) - m) * (if 0 ≤ q * (b - 1) - m then eR P t else eL P t) ≤ eLo T l * (b - 1) := fun z => hn (.inr z)
  have k1 := Int.mul_le_mul_of_nonneg_right (show -m + 1 ≤ q by omega) (show 0 ≤ b - 1 by omega)
  have k2 := Int.mul_le_mul_of_nonneg_right q1 (show 0 ≤ b - 1 by omega)
  have e3 : (-m + 1) * (b - 1) = -(b * m) + m + (b - 1) := by rw [Int.add_mul, Int.mul_sub, Int.neg_mul, Int.mul_comm m b]; omega
  have e4 : m * (b - 1) = b * m - m := by rw [Int.mul_sub, Int.mul_comm m b]; omega
  have hbm2 : b * m ≤ 240 := by
    have a2 := Int.mul_le_mul (show b ≤ 16 by omega) (show m ≤ 15 by omega) (by omega) (by omega)
    omega
  have sc := met_sc hk h hm
  obtain ⟨p, hp, hv⟩ := sc.dn (u := q * (b - 1) - m) (by omega) (by omega) (by rw [Int.mul_comm (b - 1)]; omega)
  refine ⟨p, by rw [epw_at]; exact hp, fun q' hq' => ?_⟩
  have hx := (Qm.of_eps hp).1
  have hL := h.L.1
  have hb : ¬ sv b m p.1 p.2 q' = true := fun z => by
    have z1 := ((sv_iff b0).mp z).2
    have a1 := Int.mul_le_mul_of_nonneg_right (show q * (b - 1) - m ≤ q' * (b - 1) - m by
      have := Int.mul_le_mul_of_nonneg_right hq' (show 0 ≤ b - 1 by omega)
      omega) (show 0 ≤ p.1 by omega)
    rw [Int.mul_sub, show (b - 1) * (q' * p.1) = q' * (b - 1) * p.1 by rw [← Int.mul_assoc, Int.mul_comm (b - 1)]] at z1
    have a2 : (q' * (b - 1) - m) * p.1 = q' * (b - 1) * p.1 - m * p.1 := Int.sub_mul _ _ _
    omega
  cases hs : sv b m p.1 p.2 q' with
  | true => exact absurd hs hb
  | false => rfl
end
section
variable {T P : Nat} {s t l b m : Int}
theorem any_in {q : Int} {a c : Int} : ((rgD a c).any fun y => eqF y (.int q)) = decide (a ≤ q ∧ q < c) := by
  by_cases h : a ≤ q ∧ q < c
  · rw [decide_eq_true h, List.any_eq_true]
    refine ⟨.int q, ?_, by simp [eqF]⟩
    unfold rgD
    exact List.mem_map.mpr ⟨(q - a).toNat, List.mem_range.mpr (by omega), by congr 1; omega⟩
  · rw [decide_eq_false h, List.any_eq_false]
    intro x hx
    unfold rgD at hx
    obtain ⟨i, hi, rfl⟩ := List.mem_map.mp hx
    rw [List.mem_range] at hi
    simp [eqF]
    omega
theorem flat_rg (a c : Int) : (rgD a c).all flatD = true := by
  unfold rgD
  simp [flatD]
theorem good_fl : (good b m T P s t l).all flatD = true := by
  unfold good
  split <;> exact flat_rg _ _
/-- whether a figure is good -/
def isg (b m : Int) (T P : Nat) (s t l q : Int) : Bool := (good b m T P s t l).any fun y => eqF y (.int q)
theorem isg_no {q : Int} (m0 : 0 ≤ m) (q0 : -m ≤ q) (q1 : q ≤ m) (h : isg b m T P s t l q = false) : met b m T P s t l = true ∧ (q < gLo b m T P s t l ∨ gHi b m T P s t l < q) := by
  unfold isg good at h
  cases hm : met b m T P s t l with
  | true =>
    rw [if_pos hm, any_in] at h
    have := of_decide_eq_false h
    exact ⟨rfl, by omega⟩
  | false =>
    rw [if_neg (by rw [hm]; decide), any_in] at h
    have := of_decide_eq_false h
    omega
theorem pts_item {w : Int} {ps : List (Int × Int)} {i : Nat} {d : D} (h : (pts w ps)[i]? = some d) : ∃ p, ps[i]? = some p ∧ d = .tuple [.int w, .int p.1, .int p.2] := by
  unfold pts at h
  rw [List.getElem?_map] at h
  cases hp : ps[i]? with
  | none => rw [hp] at h; cases h
  | some p => rw [hp] at h; cases h; exact ⟨p, rfl, rfl⟩
theorem Shw.xs {w : Nat} {x y : Int} (hk : Knd b m) (h : Shw b m T P s t l w x y) : 0 < x ∧ x.natAbs < 2 ^ 120 ∧ y.natAbs < 2 ^ 140 := by
  obtain ⟨b0, b1, m0, m1⟩ := hk.b2
  have h1 := h.x0
  have h2 := h.x1
  have h3 := pow2_pos (w - 1)
  have h4 : (2 : Int) ^ w ≤ 2 ^ 40 := pow2_le h.w40
  have e : (2 : Int) ^ 40 = 1099511627776 := by decide
  have hbm2 : b * m ≤ 240 := by
    have a2 := Int.mul_le_mul (show b ≤ 16 by omega) (show m ≤ 15 by omega) (by omega) (by omega)
    omega
  have a1 := Int.mul_le_mul_of_nonneg_right hbm2 (show 0 ≤ x by omega)
  have y0 := h.y0
  have y1 := h.y1
  have g1 : y ≤ 240 * x := by
    by_cases z : 0 ≤ y
    · have := Int.mul_le_mul_of_nonneg_right (show 1 ≤ b - 1 by omega) z
      omega
    · omega
  have g2 : -y ≤ 240 * x := by
    by_cases z : 0 ≤ -y
    · have := Int.mul_le_mul_of_nonneg_right (show 1 ≤ b - 1 by omega) z
      omega
    · omega
  exact ⟨by omega, by omega, by omega⟩
theorem spoiler_cl {q : Int} {Q : D → List D → Prop} (hk : Knd b m) (h : Cel T P s t l) (T1 : 1 ≤ T) (T12 : T + P ≤ 28) (t0 : 2 ^ (T - 1) ≤ t) (t1 : t < 2 ^ T) (q0 : -m ≤ q) (q1 : q ≤ m)
    (k1 : isg b m T P s t l q = true → ∀ as, Q .none as) (k2 : isg b m T P s t l q = false → ∀ (w : Nat) x y as, Shw b m T P s t l w x y → sv b m x y q = false → Q (.tuple [.int w, .int x, .int y]) as) : Cl F_spoiler [.tuple [.int b, .int m], .tuple [.int T, .int P], .int s, .tuple [.int t, .int l], .int q] Q := by
  obtain ⟨b0, b1, m0, m1⟩ := hk.b2
  refine fn_cl rfl ?_
  unfold b_spoiler
  walk_at "e"
  refine good_cl hk h fun as => ?_
  walk_at "z"
  refine ⟨by rw [good_fl]; rfl, ?_⟩
  cases hg : ((good b m T P s t l).any fun y => eqF y (.int q)) with
  | true =>
    walk_at "z"
    exact k1 hg _
  | false =>
    walk_at "z"
    have k2 := k2 hg
    obtain ⟨hm, hq⟩ := isg_no (by omega) q0 q1 hg
    have mx : (if (P : Int) > T then (P : Int) else T) = ((max T P : Nat) : Int) := by split <;> omega
    rw [mx]
    refine wh_by (fun st => ∃ (w : Nat) (x6 : Option D), st = [some (.tuple [.int b, .int m]), some (.tuple [.int T, .int P]), some (.int s), some (.tuple [.int t, .int l]), some (.int q), some (.int w), x6] ∧ T ≤ w ∧ P ≤ w ∧ w ≤ T + P + 10) (fun st => match look st 5 with | some (.int w) => ((T + P + 11 : Nat) - w).toNat | _ => 0) ⟨_, _, rfl, by omega, by omega, by omega⟩ ?_
    rintro _ ⟨w, x6, rfl, wT, wP, w2⟩
    walk_at "z"
    refine edge_cl hk h wT wP (by omega) fun as => ?_
    walk_at "z"
    refine for_it (fun i st => ∃ x6, st = [some (.tuple [.int b, .int m]), some (.tuple [.int T, .int P]), some (.int s), some (.tuple [.int t, .int l]), some (.int q), some (.int w), x6] ∧ ∀ j p, j < i → (epw b m T P s t l w)[j]? = some p → sv b m p.1 p.2 q = true) ⟨_, rfl, fun j p hj => by omega⟩ ?_ ?_
    · rintro i d _ hd ⟨x6, rfl, hall⟩
      obtain ⟨p, hp, rfl⟩ := pts_item hd
      have sh := shw_of hk wT wP (by omega) T1 t0 t1 (List.mem_of_getElem? hp)
      obtain ⟨x1, x2, x3⟩ := sh.xs hk
      walk_at "z"
      refine serves_cl hk (by omega) x2 x3 fun as => ?_
      cases hs : sv b m p.1 p.2 q with
      | true =>
        walk_at "z"
        refine ⟨_, rfl, fun j p' hj hp' => ?_⟩
        by_cases z : j = i
        · subst z
          rw [hp] at hp'
          cases hp'
          exact hs
        · exact hall j p' (by omega) hp'
      | false =>
        walk_at "z"
        exact k2 w p.1 p.2 _ sh hs
    · rintro _ ⟨x6, rfl, hall⟩
      walk_at "z"
      have hw : w < T + P + 10 := by
        rcases Nat.lt_or_ge w (T + P + 10) with z | z
        · exact z
        · exfalso
          have hwe : w = T + P + 10 := by omega
          subst hwe
          have hall2 : ∀ p ∈ epw b m T P s t l (T + P + 10), sv b m p.1 p.2 q = true := fun p hp => by
            obtain ⟨j, hj⟩ := List.getElem?_of_mem hp
            refine hall j p ?_ hj
            unfold pts
            rw [List.length_map]
            exact (List.getElem?_eq_some_iff.mp hj).1
          rcases hq with hq | hq
          · obtain ⟨p, hp, hv⟩ := spoil_up hk h hm q0 q1 hq
            have := hall2 p hp
            rw [hv q (by omega)] at this
            cases this
          · obtain ⟨p, hp, hv⟩ := spoil_dn hk h hm q0 q1 hq
            have := hall2 p hp
            rw [hv q (by omega)] at this
            cases this
      refine ⟨⟨w + 1, _, rfl, by omega, by omega, by omega⟩, ?_⟩
      show (((T + P + 11 : Nat) : Int) - ((w : Int) + 1)).toNat < (((T + P + 11 : Nat) : Int) - (w : Int)).toNat
      omega
end
section
variable {T P : Nat} {s t l b m : Int}
/-- whether some figure serves two points -/
def bsv (b m : Int) (p r : Int × Int) : Bool := (List.range (2 * m + 1).toNat).any fun i => sv b m p.1 p.2 (-m + (i : Nat)) && sv b m r.1 r.2 (-m + (i : Nat))
theorem bsv_iff {p r : Int × Int} : bsv b m p r = true ↔ ∃ q, -m ≤ q ∧ q ≤ m ∧ sv b m p.1 p.2 q = true ∧ sv b m r.1 r.2 q = true := by
  unfold bsv
  rw [List.any_eq_true]
  constructor
  · rintro ⟨i, hi, h⟩
    rw [List.mem_range] at hi
    rw [Bool.and_eq_true] at h
    exact ⟨_, by omega, by omega, h.1, h.2⟩
  · rintro ⟨q, q0, q1, h1, h2⟩
    refine ⟨(q + m).toNat, List.mem_range.mpr (by omega), ?_⟩
    rw [Bool.and_eq_true, show -m + ((q + m).toNat : Int) = q by omega]
    exact ⟨h1, h2⟩
theorem both_cl {w : Nat} {p r : Int × Int} {Q : D → List D → Prop} (hk : Knd b m) (hp : Shw b m T P s t l w p.1 p.2) (hr : Shw b m T P s t l w r.1 r.2) (q : ∀ as, Q (.bool (bsv b m p r)) as) : Cl F_both_served [.tuple [.int b, .int m], .tuple [.int w, .int p.1, .int p.2], .tuple [.int w, .int r.1, .int r.2]] Q := by
  obtain ⟨b0, b1, m0, m1⟩ := hk.b2
  obtain ⟨x1, x2, x3⟩ := hp.xs hk
  obtain ⟨y1, y2, y3⟩ := hr.xs hk
  refine fn_cl rfl ?_
  unfold b_both_served
  walk_at "e"
  refine ⟨by omega, for_rg (fun i st => ∃ x3, st = [some (.tuple [.int b, .int m]), some (.tuple [.int w, .int p.1, .int p.2]), some (.tuple [.int w, .int r.1, .int r.2]), x3] ∧ ∀ j : Nat, j < i → ¬ (sv b m p.1 p.2 (-m + j) = true ∧ sv b m r.1 r.2 (-m + j) = true)) ⟨_, rfl, fun j hj => by omega⟩ ?_ ?_⟩
  · rintro i _ hi ⟨z3, rfl, hall⟩
    have yes : sv b m p.1 p.2 (-m + i) = true → sv b m r.1 r.2 (-m + i) = true → bsv b m p r = true := fun h1 h2 => bsv_iff.mpr ⟨_, by omega, by omega, h1, h2⟩
    have next : ¬ (sv b m p.1 p.2 (-m + i) = true ∧ sv b m r.1 r.2 (-m + i) = true) → ∀ j : Nat, j < i + 1 → ¬ (sv b m p.1 p.2 (-m + j) = true ∧ sv b m r.1 r.2 (-m + j) = true) := fun h j hj => by
      by_cases z : j = i
      · subst z; exact h
      · exact hall j (by omega)
    walk_at "z"
    refine serves_cl hk (by omega) x2 x3 fun as => ?_
    cases hs : sv b m p.1 p.2 (-m + i) with
    | false =>
      walk_at "z"
      exact ⟨_, rfl, next fun z => by rw [hs] at z; exact absurd z.1 (by decide)⟩
    | true =>
      walk_at "z"
      refine serves_cl hk (by omega) y2 y3 fun as => ?_
      cases hs2 : sv b m r.1 r.2 (-m + i) with
      | false =>
        walk_at "z"
        exact ⟨_, rfl, next fun z => by rw [hs2] at z; exact absurd z.2 (by decide)⟩
      | true =>
        walk_at "z"
        rw [← yes hs hs2]
        exact q _
  · rintro _ ⟨z3, rfl, hall⟩
    walk_at "z"
    have : bsv b m p r = false := by
      cases hb : bsv b m p r with
      | false => rfl
      | true =>
        obtain ⟨q, q0, q1, h1, h2⟩ := bsv_iff.mp hb
        refine absurd ⟨?_, ?_⟩ (hall (q + m).toNat (by omega))
        · rw [show -m + ((q + m).toNat : Int) = q by omega]; exact h1
        · rw [show -m + ((q + m).toNat : Int) = q by omega]; exact h2
    rw [← this]
    exact q _
theorem cut_take {xs : List D} {i : Nat} (h : i ≤ xs.length) : cutD xs none (some (i : Int)) = xs.take i := by
  unfold cutD
  rw [HT.sIx_none, HT.sIx_nat, Nat.min_eq_left h, List.drop_zero, Nat.sub_zero]
theorem two_cl {Q : D → List D → Prop} (hk : Knd b m) (h : Cel T P s t l) (T1 : 1 ≤ T) (T12 : T + P ≤ 28) (t0 : 2 ^ (T - 1) ≤ t) (t1 : t < 2 ^ T)
    (k1 : (met b m T P s t l = false ∨ good b m T P s t l ≠ []) → ∀ as, Q .none as) (k2 : met b m T P s t l = true → good b m T P s t l = [] → ∀ (w : Nat) (p r : Int × Int) as, Shw b m T P s t l w p.1 p.2 → Shw b m T P s t l w r.1 r.2 → bsv b m r p = false → Q (.tuple [.tuple [.int w, .int p.1, .int p.2], .tuple [.int w, .int r.1, .int r.2]]) as) : Cl F_two_points [.tuple [.int b, .int m], .tuple [.int T, .int P], .int s, .tuple [.int t, .int l]] Q := by
  obtain ⟨b0, b1, m0, m1⟩ := hk.b2
  refine fn_cl rfl ?_
  unfold b_two_points
  walk_at "e"
  refine met_cl hk h fun as => ?_
  cases hm : met b m T P s t l with
  | false =>
    walk_at "z"
    exact k1 (.inl hm) _
  | true =>
    walk_at "z"
    refine good_cl hk h fun as => ?_
    walk_at "z"
    refine so_neNil good_shp ?_
    cases hg : good b m T P s t l with
    | cons x xs =>
      simp only [List.isEmpty_cons, Bool.not_false]
      walk_at "z"
      exact k1 (.inr (by rw [hg]; exact List.cons_ne_nil _ _)) _
    | nil =>
      have k2 := k2 hm hg
      have hgl : gHi b m T P s t l < gLo b m T P s t l := by
        unfold good at hg
        rw [if_pos hm] at hg
        have := congrArg List.length hg
        rw [rgD_len] at this
        simp at this
        omega
      have gl := gLo_in (b := b) (m := m) (T := T) (P := P) (s := s) (t := t) (l := l) (by omega)
      have gh := gHi_in (b := b) (m := m) (T := T) (P := P) (s := s) (t := t) (l := l) (by omega)
      simp only [List.isEmpty_nil, Bool.not_true]
      walk_at "z"
      have mx : (if (P : Int) > T then (P : Int) else T) = ((max T P : Nat) : Int) := by split <;> omega
      rw [mx]
      refine wh_by (fun st => ∃ (w : Nat) (x5 x6 x7 x8 : Option D), st = [some (.tuple [.int b, .int m]), some (.tuple [.int T, .int P]), some (.int s), some (.tuple [.int t, .int l]), some (.int w), x5, x6, x7, x8] ∧ T ≤ w ∧ P ≤ w ∧ w ≤ T + P + 10) (fun st => match look st 4 with | some (.int w) => ((T + P + 11 : Nat) - w).toNat | _ => 0) ⟨_, _, _, _, _, rfl, by omega, by omega, by omega⟩ ?_
      rintro _ ⟨w, x5, x6, x7, x8, rfl, wT, wP, w2⟩
      walk_at "z"
      refine edge_cl hk h wT wP (by omega) fun as => ?_
      walk_at "z"
      have hsh : ∀ (j : Nat) (p : Int × Int), (epw b m T P s t l w)[j]? = some p → Shw b m T P s t l w p.1 p.2 := fun j p hp => shw_of hk wT wP (by omega) T1 t0 t1 (List.mem_of_getElem? hp)
      refine for_it (fun i st => ∃ x6 x7 x8, st = [some (.tuple [.int b, .int m]), some (.tuple [.int T, .int P]), some (.int s), some (.tuple [.int t, .int l]), some (.int w), some (.list (pts w (epw b m T P s t l w))), x6, x7, x8] ∧ ∀ (c a : Nat) p r, c < i → a < c → (epw b m T P s t l w)[c]? = some p → (epw b m T P s t l w)[a]? = some r → bsv b m p r = true) ⟨_, _, _, rfl, fun c a p r hc => by omega⟩ ?_ ?_
      · rintro i d _ hd ⟨x6, x7, x8, rfl, hall⟩
        rw [enumD_get] at hd
        cases hx : (pts w (epw b m T P s t l w))[i]? with
        | none => rw [hx] at hd; cases hd
        | some d0 =>
          rw [hx] at hd
          cases hd
          obtain ⟨p, hp, rfl⟩ := pts_item hx
          have hil : i < (pts w (epw b m T P s t l w)).length := (List.getElem?_eq_some_iff.mp hx).1
          walk_at "z"
          rw [cut_take (by omega)]
          refine for_it (fun j st => ∃ x8, st = [some (.tuple [.int b, .int m]), some (.tuple [.int T, .int P]), some (.int s), some (.tuple [.int t, .int l]), some (.int w), some (.list (pts w (epw b m T P s t l w))), some (.int i), some (.tuple [.int w, .int p.1, .int p.2]), x8] ∧ ∀ (a : Nat) r, a < j → (epw b m T P s t l w)[a]? = some r → bsv b m p r = true) ⟨_, rfl, fun a r ha => by omega⟩ ?_ ?_
          · rintro j d2 _ hd2 ⟨x8, rfl, hall2⟩
            have hd3 : (pts w (epw b m T P s t l w))[j]? = some d2 := by
              have hj : j < i := by
                have := (List.getElem?_eq_some_iff.mp hd2).1
                rw [List.length_take] at this
                omega
              rw [List.getElem?_take_of_lt hj] at hd2
              exact hd2
            obtain ⟨r, hr, rfl⟩ := pts_item hd3
            walk_at "z"
            refine both_cl hk (hsh i p hp) (hsh j r hr) fun as => ?_
            cases hb : bsv b m p r with
            | true =>
              walk_at "z"
              refine ⟨_, rfl, fun a r' ha hr' => ?_⟩
              by_cases z : a = j
              · subst z
                rw [hr] at hr'
                cases hr'
                exact hb
              · exact hall2 a r' (by omega) hr'
            | false =>
              walk_at "z"
              exact k2 w r p _ (hsh j r hr) (hsh i p hp) hb
          · rintro _ ⟨x8, rfl, hall2⟩
            refine ⟨_, _, _, rfl, fun c a p' r hc ha hp' hr => ?_⟩
            by_cases z : c = i
            · subst z
              rw [hp] at hp'
              cases hp'
              refine hall2 a r ?_ hr
              rw [List.length_take]
              omega
            · exact hall c a p' r (by omega) ha hp' hr
      · rintro _ ⟨x6, x7, x8, rfl, hall⟩
        walk_at "z"
        have hw : w < T + P + 10 := by
          rcases Nat.lt_or_ge w (T + P + 10) with z | z
          · exact z
          · exfalso
            have hwe : w = T + P + 10 := by omega
            subst hwe
            obtain ⟨p, hp, hv⟩ := spoil_up (q := gLo b m T P s t l - 1) hk h hm (by omega) (by omega) (by omega)
            obtain ⟨r, hr, hu⟩ := spoil_dn (q := gHi b m T P s t l + 1) hk h hm (by omega) (by omega) (by omega)
            obtain ⟨i, hi⟩ := List.getElem?_of_mem hp
            obtain ⟨j, hj⟩ := List.getElem?_of_mem hr
            have none : ∀ q : Int, sv b m p.1 p.2 q = true → sv b m r.1 r.2 q = true → False := fun q h1 h2 => by
              by_cases z : q ≤ gLo b m T P s t l - 1
              · rw [hv q z] at h1; cases h1
              · rw [hu q (by omega)] at h2; cases h2
            have lim : ∀ (c : Nat) x, (epw b m T P s t l (T + P + 10))[c]? = some x → c < (enumD (pts (T + P + 10 : Nat) (epw b m T P s t l (T + P + 10)))).length := fun c x hx => by
              rw [enumD_len]
              unfold pts
              rw [List.length_map]
              exact (List.getElem?_eq_some_iff.mp hx).1
            rcases Nat.lt_trichotomy i j with z | z | z
            · obtain ⟨q, _, _, h1, h2⟩ := bsv_iff.mp (hall j i r p (lim j r hj) z hj hi)
              exact none q h2 h1
            · subst z
              rw [hi] at hj
              cases hj
              have sh := hsh i p hi
              obtain ⟨x1, _, _⟩ := sh.xs hk
              obtain ⟨q, _, _, h1⟩ := sv_ex hk x1 sh.y0 sh.y1
              exact none q h1 h1
            · obtain ⟨q, _, _, h1, h2⟩ := bsv_iff.mp (hall i j p r (lim i p hi) z hi hj)
              exact none q h1 h2
        refine ⟨⟨w + 1, _, _, _, _, rfl, by omega, by omega, by omega⟩, ?_⟩
        show (((T + P + 11 : Nat) : Int) - ((w : Int) + 1)).toNat < (((T + P + 11 : Nat) : Int) - (w : Int)).toNat
        omega
end
theorem cells_of_cl {b m s d r : Int} {T P w : Nat} {Q : D → List D → Prop} (hs : s = 1 ∨ s = 2) (hT : T ≤ w) (hP : P ≤ w) (q : ∀ as, Q (.list (if s = 1 then [.tuple [.int (d / 2 ^ (w - T)), .int (r / 2 ^ (w - P))]] else [.tuple [.int (d / 2 ^ (w - T)), .int (r / 2 ^ (w - P))], .tuple [.int (d / 2 ^ (w - T)), .int (r / 2 ^ (w - P) - 1)]])) as) : Cl F_cells_of [.tuple [.int b, .int m], .tuple [.int T, .int P], .int s, .tuple [.int w, .int d, .int r]] Q := by
  refine fn_cl rfl ?_
  unfold b_cells_of
  walk_at "e"
  refine ⟨by omega, by omega, ?_⟩
  rw [show ((w : Int) - T).toNat = w - T by omega, show ((w : Int) - P).toNat = w - P by omega]
  refine br_d (fun h => ?_) fun h => ?_
  · rw [if_pos h] at q
    walk_at "z"
    exact q _
  · rw [if_neg h] at q
    walk_at "z"
    exact q _
theorem top_in {w T : Nat} {d : Int} (h1 : 1 ≤ T) (hw : T ≤ w) (d0 : 2 ^ (w - 1) ≤ d) (d1 : d < 2 ^ w) : 2 ^ (T - 1) ≤ d / 2 ^ (w - T) ∧ d / 2 ^ (w - T) < 2 ^ T := by
  have zp := pow2_pos (w - T)
  refine ⟨?_, ?_⟩
  · rw [Int.le_ediv_iff_mul_le zp, ← Int.pow_add, show T - 1 + (w - T) = w - 1 by omega]
    exact d0
  · rw [Int.ediv_lt_iff_lt_mul zp, ← Int.pow_add, show T + (w - T) = w by omega]
    exact d1
section
variable {T P : Nat} {s t l b m : Int}
/-- a point within a cell, by one measure -/
structure Wth (T P : Nat) (s t l d r : Int) : Prop where
  sc : ∃ c1 c2 : Int, 0 < c1 ∧ 0 < c2 ∧ c2 * eL P t ≤ c1 * d ∧ c1 * d < c2 * eR P t ∧ c2 * eLo T l ≤ c1 * r ∧ c1 * r < c2 * eHi T s l
theorem wth_of {w : Nat} {d r : Int} (hT : T ≤ w) (hP : P ≤ w) (h1 : t = d / 2 ^ (w - T)) (h2 : l ≤ r / 2 ^ (w - P)) (h3 : r / 2 ^ (w - P) < l + s) : Wth T P s t l d r := by
  have zT := pow2_pos (w - T)
  have zP := pow2_pos (w - P)
  have yT := pow2_pos T
  have yP := pow2_pos P
  have eT : (2 : Int) ^ w = 2 ^ (w - T) * 2 ^ T := by rw [← Int.pow_add]; congr 1; omega
  have eP : (2 : Int) ^ w = 2 ^ (w - P) * 2 ^ P := by rw [← Int.pow_add]; congr 1; omega
  have a1 : t * 2 ^ (w - T) ≤ d := by rw [h1]; exact Int.ediv_mul_le _ (by omega)
  have a2 : d < (t + 1) * 2 ^ (w - T) := by rw [h1]; exact Int.lt_ediv_add_one_mul_self _ zT
  have a3 : l * 2 ^ (w - P) ≤ r := (Int.le_ediv_iff_mul_le zP).mp h2
  have a4 : r < (l + s) * 2 ^ (w - P) := (Int.ediv_lt_iff_lt_mul zP).mp h3
  refine ⟨2 ^ T * 2 ^ P, 2 ^ w, Int.mul_pos yT yP, pow2_pos w, ?_, ?_, ?_, ?_⟩
  · have := Int.mul_le_mul_of_nonneg_left a1 (Int.le_of_lt (Int.mul_pos yT yP))
    rw [eT]
    unfold eL
    rw [show 2 ^ (w - T) * 2 ^ T * (t * 2 ^ P) = 2 ^ T * 2 ^ P * (t * 2 ^ (w - T)) by ac_rfl]
    exact this
  · have := Int.mul_lt_mul_of_pos_left a2 (Int.mul_pos yT yP)
    rw [eT]
    unfold eR
    rw [show 2 ^ (w - T) * 2 ^ T * ((t + 1) * 2 ^ P) = 2 ^ T * 2 ^ P * ((t + 1) * 2 ^ (w - T)) by ac_rfl]
    exact this
  · have := Int.mul_le_mul_of_nonneg_left a3 (Int.le_of_lt (Int.mul_pos yT yP))
    rw [eP]
    unfold eLo
    rw [show 2 ^ (w - P) * 2 ^ P * (l * 2 ^ T) = 2 ^ T * 2 ^ P * (l * 2 ^ (w - P)) by ac_rfl]
    exact this
  · have := Int.mul_lt_mul_of_pos_left a4 (Int.mul_pos yT yP)
    rw [eP]
    unfold eHi
    rw [show 2 ^ (w - P) * 2 ^ P * ((l + s) * 2 ^ T) = 2 ^ T * 2 ^ P * ((l + s) * 2 ^ (w - P)) by ac_rfl]
    exact this
theorem wth_met {d r : Int} (hk : Knd b m) (w : Wth T P s t l d r) (r0 : (b - 1) * r ≤ b * m * d) (r1 : (b - 1) * (-r) ≤ b * m * d) : met b m T P s t l = true := by
  obtain ⟨b0, b1, m0, m1⟩ := hk.b2
  obtain ⟨c1, c2, p1, p2, w1, w2, w3, w4⟩ := w.sc
  have bm0 : 0 < b * m := Int.mul_pos (by omega) (by omega)
  have up : c1 * (b * m * d) < c2 * (b * m * eR P t) := by
    have := Int.mul_lt_mul_of_pos_left w2 bm0
    rw [show c1 * (b * m * d) = b * m * (c1 * d) by ac_rfl, show c2 * (b * m * eR P t) = b * m * (c2 * eR P t) by ac_rfl]
    exact this
  unfold met
  by_cases h1 : 0 < eLo T l
  · rw [if_pos h1]
    refine decide_eq_true (Int.lt_of_mul_lt_mul_left (a := c2) ?_ (Int.le_of_lt p2))
    have a1 := Int.mul_le_mul_of_nonneg_left w3 (show 0 ≤ b - 1 by omega)
    have a2 := Int.mul_le_mul_of_nonneg_left r0 (Int.le_of_lt p1)
    rw [show c2 * ((b - 1) * eLo T l) = (b - 1) * (c2 * eLo T l) by ac_rfl]
    rw [show c1 * ((b - 1) * r) = (b - 1) * (c1 * r) by ac_rfl] at a2
    omega
  · rw [if_neg h1]
    by_cases h2 : eHi T s l < 0
    · rw [if_pos h2]
      refine decide_eq_true (Int.lt_of_mul_lt_mul_left (a := c2) ?_ (Int.le_of_lt p2))
      have a1 := Int.mul_le_mul_of_nonneg_left (show -(c2 * eHi T s l) ≤ -(c1 * r) by omega) (show 0 ≤ b - 1 by omega)
      have a2 := Int.mul_le_mul_of_nonneg_left r1 (Int.le_of_lt p1)
      rw [show c2 * ((b - 1) * -eHi T s l) = (b - 1) * (c2 * -eHi T s l) by ac_rfl, Int.mul_neg c2]
      rw [show c1 * ((b - 1) * -r) = (b - 1) * (c1 * -r) by ac_rfl, Int.mul_neg c1] at a2
      omega
    · rw [if_neg h2]
theorem wth_sv {d r q : Int} (hk : Knd b m) (hc : Cel T P s t l) (w : Wth T P s t l d r) (r0 : (b - 1) * r ≤ b * m * d) (r1 : (b - 1) * (-r) ≤ b * m * d) (q0 : -m ≤ q) (q1 : q ≤ m) (h1 : gLo b m T P s t l ≤ q) (h2 : q ≤ gHi b m T P s t l) : sv b m d r q = true := by
  obtain ⟨b0, b1, m0, m1⟩ := hk.b2
  obtain ⟨c1, c2, p1, p2, w1, w2, w3, w4⟩ := w.sc
  refine (sv_iff b0).mpr ⟨?_, ?_⟩
  · have goal : (b - 1) * r ≤ (q * (b - 1) + m) * d := by
      rcases (gLo_iff hk hc q0 q1).mp h1 with z | z
      · subst z
        rw [show q * (b - 1) + q = b * q by rw [Int.mul_sub, Int.mul_comm q b]; omega]
        exact r0
      · refine Int.le_of_mul_le_mul_left (a := c1) ?_ p1
        have a1 := Int.mul_le_mul_of_nonneg_left (Int.le_of_lt w4) (show 0 ≤ b - 1 by omega)
        have a2 := Int.mul_le_mul_of_nonneg_left z (Int.le_of_lt p2)
        rw [show c1 * ((b - 1) * r) = (b - 1) * (c1 * r) by ac_rfl]
        rw [show c2 * (eHi T s l * (b - 1)) = (b - 1) * (c2 * eHi T s l) by ac_rfl] at a2
        generalize q * (b - 1) + m = u at *
        by_cases hu : 0 ≤ u
        · rw [if_pos hu] at a2
          have a3 := Int.mul_le_mul_of_nonneg_left w1 hu
          rw [show c2 * (u * eL P t) = u * (c2 * eL P t) by ac_rfl] at a2
          rw [show c1 * (u * d) = u * (c1 * d) by ac_rfl]
          omega
        · rw [if_neg hu] at a2
          have a3 := Int.mul_le_mul_of_nonpos_left (show u ≤ 0 by omega) (Int.le_of_lt w2)
          rw [show c2 * (u * eR P t) = u * (c2 * eR P t) by ac_rfl] at a2
          rw [show c1 * (u * d) = u * (c1 * d) by ac_rfl]
          omega
    rw [Int.mul_sub, show (b - 1) * (q * d) = q * (b - 1) * d by ac_rfl]
    rw [Int.add_mul] at goal
    omega
  · have goal : (q * (b - 1) - m) * d ≤ (b - 1) * r := by
      rcases (gHi_iff hk hc q0 q1).mp h2 with z | z
      · subst z
        rw [show -m * (b - 1) - m = -(b * m) by rw [Int.mul_sub, Int.neg_mul, Int.mul_comm m b]; omega, Int.neg_mul]
        rw [Int.mul_neg] at r1
        omega
      · refine Int.le_of_mul_le_mul_left (a := c1) ?_ p1
        have a1 := Int.mul_le_mul_of_nonneg_left w3 (show 0 ≤ b - 1 by omega)
        have a2 := Int.mul_le_mul_of_nonneg_left z (Int.le_of_lt p2)
        rw [show c1 * ((b - 1) * r) = (b - 1) * (c1 * r) by ac_rfl]
        rw [show c2 * (eLo T l * (b - 1)) = (b - 1) * (c2 * eLo T l) by ac_rfl] at a2
        generalize q * (b - 1) - m = u at *
        by_cases hu : 0 ≤ u
        · rw [if_pos hu] at a2
          have a3 := Int.mul_le_mul_of_nonneg_left (Int.le_of_lt w2) hu
          rw [show c2 * (u * eR P t) = u * (c2 * eR P t) by ac_rfl] at a2
          rw [show c1 * (u * d) = u * (c1 * d) by ac_rfl]
          omega
        · rw [if_neg hu] at a2
          have a3 := Int.mul_le_mul_of_nonpos_left (show u ≤ 0 by omega) w1
          rw [show c2 * (u * eL P t) = u * (c2 * eL P t) by ac_rfl] at a2
          rw [show c1 * (u * d) = u * (c1 * d) by ac_rfl]
          omega
    rw [Int.mul_sub, show (b - 1) * (q * d) = q * (b - 1) * d by ac_rfl]
    rw [Int.sub_mul] at goal
    omega
end
theorem right_cl {b m s d r : Int} {T P w : Nat} {Q : D → List D → Prop} (hk : Knd b m) (hs : s = 1 ∨ s = 2) (T1 : 1 ≤ T) (T8 : T ≤ 8) (P8 : P ≤ 8) (hw : w ≤ 68) (pt : Pnt b m T P w d r) (k : ∀ as, Q (.bool true) as) : Cl F_law_right [.tuple [.int b, .int m], .tuple [.int T, .int P], .int s, .tuple [.int w, .int d, .int r]] Q := by
  obtain ⟨b0, b1, m0, m1⟩ := hk.b2
  have wT := pt.wt
  have wP := pt.wp
  have tp := top_in T1 wT pt.d0 pt.d1
  have zT := pow2_pos (w - T)
  have zP := pow2_pos (w - P)
  have zw : (2 : Int) ^ w ≤ 2 ^ 68 := pow2_le hw
  have e68 : (2 : Int) ^ 68 = 295147905179352825856 := by decide
  have z1 := pow2_pos (w - 1)
  have d0 := pt.d0
  have d1 := pt.d1
  have r0 := pt.r0
  have r1 := pt.r1
  have hbm2 : b * m ≤ 240 := by
    have a2 := Int.mul_le_mul (show b ≤ 16 by omega) (show m ≤ 15 by omega) (by omega) (by omega)
    omega
  have bd := Int.mul_le_mul_of_nonneg_right hbm2 (show 0 ≤ d by omega)
  have g1 : r ≤ 240 * d := by
    by_cases z : 0 ≤ r
    · have := Int.mul_le_mul_of_nonneg_right (show 1 ≤ b - 1 by omega) z
      omega
    · omega
  have g2 : -r ≤ 240 * d := by
    by_cases z : 0 ≤ -r
    · have := Int.mul_le_mul_of_nonneg_right (show 1 ≤ b - 1 by omega) z
      omega
    · omega
  have hd : d.natAbs < 2 ^ 120 := by omega
  have hr : r.natAbs < 2 ^ 140 := by omega
  have lk : -61441 ≤ r / 2 ^ (w - P) ∧ r / 2 ^ (w - P) ≤ 61440 := by
    have e1 : (2 : Int) ^ w = 2 ^ P * 2 ^ (w - P) := by rw [← Int.pow_add]; congr 1; omega
    have hp8 : (2 : Int) ^ P ≤ 256 := by
      have := pow2_le (m := P) (n := 8) P8
      have e8 : (2 : Int) ^ 8 = 256 := by decide
      omega
    have q1 := Int.mul_le_mul_of_nonneg_right hp8 (Int.le_of_lt zP)
    refine ⟨?_, ?_⟩
    · rw [Int.le_ediv_iff_mul_le zP]
      omega
    · have := Int.ediv_lt_of_lt_mul zP (show r < 61441 * 2 ^ (w - P) by omega)
      omega
  have ht8 : (2 : Int) ^ T ≤ 256 := by
    have := pow2_le (m := T) (n := 8) T8
    have e8 : (2 : Int) ^ 8 = 256 := by decide
    omega
  have htp := pow2_pos (T - 1)
  refine fn_cl rfl ?_
  unfold b_law_right
  walk_at "e"
  rw [show (w : Int) - T = ((w - T : Nat) : Int) by omega, show (w : Int) - P = ((w - P : Nat) : Int) by omega]
  walk_at "z"
  refine ⟨shl1C (by omega), divC_of (n := 70) zT (pow2_abs (by omega)), shl1C (by omega), divC_of (n := 70) zP (pow2_abs (by omega)), ?_⟩
  refine cells_of_cl hs wT wP fun as => ?_
  walk_at "z"
  have c1 : ∀ a c : D, cutD [a, c] none (some 1) = [a] := fun a c => rfl
  have c2 : ∀ a c : D, cutD [a, c] none (some 2) = [a, c] := fun a c => rfl
  have ec : ∀ a c : D, cutD [a, c] none (some s) = if s = 1 then [a] else [a, c] := fun a c => by
    rcases hs with rfl | rfl
    · rw [if_pos rfl, c1]
    · rw [if_neg (by decide), c2]
  rw [ec]
  refine so_ne_s (n := 2) (by split <;> rfl) ?_
  walk_at "z"
  rw [ec]
  refine for_it (fun i st => ∃ x6 x10 x11 x12, st = [some (.tuple [.int b, .int m]), some (.tuple [.int T, .int P]), some (.int s), some (.tuple [.int w, .int d, .int r]), some (.int (d / 2 ^ (w - T))), some (.int (r / 2 ^ (w - P))), x6, some (.int w), some (.int d), some (.int r), x10, x11, x12]) ⟨_, _, _, _, rfl⟩ ?_ ?_
  · rintro i x _ hx ⟨x6, x10, x11, x12, rfl⟩
    have hx := List.mem_of_getElem? hx
    obtain ⟨l, rfl, l0, l1⟩ : ∃ l : Int, x = .tuple [.int (d / 2 ^ (w - T)), .int l] ∧ l ≤ r / 2 ^ (w - P) ∧ r / 2 ^ (w - P) < l + s := by
      rcases hs with rfl | rfl
      · rw [if_pos rfl] at hx
        simp only [List.mem_cons, List.not_mem_nil, or_false] at hx
        exact ⟨_, hx, by omega, by omega⟩
      · rw [if_neg (by decide)] at hx
        simp only [List.mem_cons, List.not_mem_nil, or_false] at hx
        rcases hx with hx | hx
        · exact ⟨_, hx, by omega, by omega⟩
        · exact ⟨_, hx, by omega, by omega⟩
    have hc : Cel T P s (d / 2 ^ (w - T)) l := ⟨by omega, by omega, hs, by omega, by omega, by omega, by omega⟩
    have wt := wth_of (s := s) (l := l) (d := d) (r := r) wT wP rfl l0 l1
    have hm := wth_met hk wt r0 r1
    walk_at "z"
    refine met_cl hk hc fun as => ?_
    rw [hm]
    walk_at "z"
    refine good_cl hk hc fun as => ?_
    walk_at "z"
    refine for_it (fun i st => ∃ x11 x12, st = [some (.tuple [.int b, .int m]), some (.tuple [.int T, .int P]), some (.int s), some (.tuple [.int w, .int d, .int r]), some (.int (d / 2 ^ (w - T))), some (.int (r / 2 ^ (w - P))), some (.tuple [.int (d / 2 ^ (w - T)), .int l]), some (.int w), some (.int d), some (.int r), some (.list (good b m T P s (d / 2 ^ (w - T)) l)), x11, x12]) ⟨_, _, rfl⟩ ?_ ?_
    · rintro j y _ hy ⟨x11, x12, rfl⟩
      have hy := List.mem_of_getElem? hy
      have hgq : ∃ q, y = .int q ∧ gLo b m T P s (d / 2 ^ (w - T)) l ≤ q ∧ q ≤ gHi b m T P s (d / 2 ^ (w - T)) l := by
        unfold good at hy
        rw [if_pos hm] at hy
        unfold rgD at hy
        obtain ⟨i, hi, rfl⟩ := List.mem_map.mp hy
        rw [List.mem_range] at hi
        exact ⟨_, rfl, by omega, by omega⟩
      obtain ⟨q, rfl, q0, q1⟩ := hgq
      have gl := gLo_in (b := b) (m := m) (T := T) (P := P) (s := s) (t := d / 2 ^ (w - T)) (l := l) (by omega)
      have gh := gHi_in (b := b) (m := m) (T := T) (P := P) (s := s) (t := d / 2 ^ (w - T)) (l := l) (by omega)
      have hsv := wth_sv hk hc wt r0 r1 (by omega) (by omega) q0 q1
      have hq4 : q.natAbs < 2 ^ 4 := by omega
      have hqd : (q * d).natAbs < 2 ^ 124 := abs_mul (m := 4) (n := 120) hq4 hd
      walk_at "z"
      have er : (if 0 - (r - q * d) > r - q * d then 0 - (r - q * d) else r - q * d) = (if r - q * d < 0 then -(r - q * d) else r - q * d) := by split <;> split <;> omega
      rw [er]
      refine ⟨mulC_of (m := 4) (n := 120) hq4 hd, mulC_of (m := 4) (n := 141) (by omega) (by split <;> omega), mulC_of (m := 4) (n := 120) (by omega) hd, ?_⟩
      refine br_n (by
        have := of_decide_eq_true hsv
        omega) ?_
      walk_at "z"
      refine serves_cl hk hq4 hd hr fun as => ?_
      rw [hsv]
      walk_at "z"
      have hisg : isg b m T P s (d / 2 ^ (w - T)) l q = true := by
        unfold isg good
        rw [if_pos hm, any_in]
        exact decide_eq_true ⟨q0, by omega⟩
      refine spoiler_cl hk hc T1 (by omega) tp.1 tp.2 (by omega) (by omega) (fun _ as => ?_) (fun z => by rw [hisg] at z; cases z)
      walk_at "z"
      exact ⟨_, _, rfl⟩
    · rintro _ ⟨x11, x12, rfl⟩
      walk_at "z"
      refine two_cl hk hc T1 (by omega) tp.1 tp.2 (fun z as => ?_) (fun z1 z2 w' p r' as s1 s2 hb => ?_)
      · have hne : good b m T P s (d / 2 ^ (w - T)) l ≠ [] := by
          rcases z with z | z
          · rw [hm] at z; cases z
          · exact z
        walk_at "z"
        refine so_neNil good_shp ?_
        have : (good b m T P s (d / 2 ^ (w - T)) l).isEmpty = false := by
          cases hgg : good b m T P s (d / 2 ^ (w - T)) l with
          | nil => exact absurd hgg hne
          | cons _ _ => rfl
        rw [this]
        walk_at "z"
        rw [so_neBB]
        simp only [beq_self_eq_true]
        walk_at "z"
        exact ⟨_, _, _, _, rfl⟩
      · walk_at "z"
        refine so_neNil good_shp ?_
        rw [z2]
        simp only [List.isEmpty_nil, Bool.not_true]
        walk_at "z"
        rw [so_neBB]
        simp only [beq_self_eq_true]
        walk_at "z"
        exact ⟨_, _, _, _, rfl⟩
  · rintro _ ⟨x6, x10, x11, x12, rfl⟩
    walk_at "z"
    exact k _
theorem law_true (ns : List Int) (hl : ns.length ≤ 63) : ∃ as, F_law [scr ns] = .ok (.bool true) as := by
  suffices h : Cl F_law [scr ns] fun d _ => d = .bool true by
    obtain ⟨d, as, e, rfl⟩ := h.out
    exact ⟨as, e⟩
  refine fn_cl rfl ?_
  unfold b_law scr
  walk_at "e"
  refine ⟨by rw [fits_eq, List.length_map]; omega, ?_⟩
  obtain ⟨z, hz⟩ := first_at ns
  rw [hz]
  walk_at "z"
  refine deck_cl (n := 0) (by omega) (by omega) fun e h => ?_
  walk_at "z"
  refine kind_cl h (by omega) fun b m e hk h => ?_
  walk_at "z"
  refine looks_cl h (by omega) fun T P e T1 T8 P8 h => ?_
  walk_at "z"
  have hcut := cut_len (l := ns.map PyData.int) (lo := some 1) (hi := some 13)
  rw [List.length_map] at hcut
  refine ⟨by rw [fits_eq]; omega, for_it (fun i s => ∃ e l, s = some (.list (ns.map .int)) :: some e :: some (.tuple [.int b, .int m]) :: some (.tuple [.int T, .int P]) :: l ∧ l.length = 3) ⟨_, _, rfl, rfl⟩ ?_ ?_⟩
  · rintro i d _ hd ⟨e, l, rfl, hl2⟩
    obtain ⟨z, rfl⟩ := ints_item hd
    match l, hl2 with
    | [u1, u2, u3], _ =>
    walk_at "z"
    refine deck_cl (n := 90) (by omega) (by omega) fun e1 h1 => ?_
    walk_at "z"
    refine point_cl h1 (by omega) hk T1 T8 P8 fun w d r e2 as hw pt h2 => ?_
    walk_at "z"
    refine for_it (fun i s => ∃ x6, s = [some (.list (ns.map .int)), some e2, some (.tuple [.int b, .int m]), some (.tuple [.int T, .int P]), some (.int z), some (.tuple [.int w, .int d, .int r]), x6]) ⟨_, rfl⟩ ?_ ?_
    · rintro j x _ hx ⟨x6, rfl⟩
      have hx := List.mem_of_getElem? hx
      simp only [List.mem_cons, List.not_mem_nil, or_false] at hx
      obtain ⟨s, rfl, hs⟩ : ∃ s : Int, x = .int s ∧ (s = 1 ∨ s = 2) := by
        rcases hx with rfl | rfl
        · exact ⟨1, rfl, .inl rfl⟩
        · exact ⟨2, rfl, .inr rfl⟩
      walk_at "z"
      refine right_cl hk hs T1 T8 P8 hw pt fun as => ?_
      walk_at "z"
      exact ⟨_, rfl⟩
    · rintro _ ⟨x6, rfl⟩
      exact ⟨_, _, rfl, rfl⟩
  · rintro _ ⟨e, l, rfl, hl2⟩
    walk_at "z"
end S
set_option Elab.async false
set_option linter.all false
set_option maxRecDepth 100000
set_option maxHeartbeats 1000000
namespace S
open PySem L2 Z
/-! ### the head -/
def d_law_deck : He.DefD := ⟨("_law_deck", none), "_law_deck", "_law_deck", defArgs s_law_deck, defBody s_law_deck, defScope s_law_deck, [], []⟩
def d_law_pick : He.DefD := ⟨("_law_pick", none), "_law_pick", "_law_pick", defArgs s_law_pick, defBody s_law_pick, defScope s_law_pick, [], []⟩
def d_law_kind : He.DefD := ⟨("_law_kind", none), "_law_kind", "_law_kind", defArgs s_law_kind, defBody s_law_kind, defScope s_law_kind, [], []⟩
def d_law_looks : He.DefD := ⟨("_law_looks", none), "_law_looks", "_law_looks", defArgs s_law_looks, defBody s_law_looks, defScope s_law_looks, [], []⟩
def d_law_great : He.DefD := ⟨("_law_great", none), "_law_great", "_law_great", defArgs s_law_great, defBody s_law_great, defScope s_law_great, [], []⟩
def d_law_point : He.DefD := ⟨("_law_point", none), "_law_point", "_law_point", defArgs s_law_point, defBody s_law_point, defScope s_law_point, [], []⟩
def d_cells_of : He.DefD := ⟨("cells_of", none), "cells_of", "cells_of", defArgs s_cells_of, defBody s_cells_of, defScope s_cells_of, [], []⟩
def d_edges : He.DefD := ⟨("edges", none), "edges", "edges", defArgs s_edges, defBody s_edges, defScope s_edges, [], []⟩
def d_is_met : He.DefD := ⟨("is_met", none), "is_met", "is_met", defArgs s_is_met, defBody s_is_met, defScope s_is_met, [], []⟩
def d_good_figures : He.DefD := ⟨("good_figures", none), "good_figures", "good_figures", defArgs s_good_figures, defBody s_good_figures, defScope s_good_figures, [], []⟩
def d_least_reaching : He.DefD := ⟨("least_reaching", none), "least_reaching", "least_reaching", defArgs s_least_reaching, defBody s_least_reaching, defScope s_least_reaching, [], []⟩
def d_edge_points : He.DefD := ⟨("edge_points", none), "edge_points", "edge_points", defArgs s_edge_points, defBody s_edge_points, defScope s_edge_points, [], []⟩
def d_serves : He.DefD := ⟨("serves", none), "serves", "serves", defArgs s_serves, defBody s_serves, defScope s_serves, [], []⟩
def d_spoiler : He.DefD := ⟨("spoiler", none), "spoiler", "spoiler", defArgs s_spoiler, defBody s_spoiler, defScope s_spoiler, [], []⟩
def d_both_served : He.DefD := ⟨("both_served", none), "both_served", "both_served", defArgs s_both_served, defBody s_both_served, defScope s_both_served, [], []⟩
def d_two_points : He.DefD := ⟨("two_points", none), "two_points", "two_points", defArgs s_two_points, defBody s_two_points, defScope s_two_points, [], []⟩
def d_law_right : He.DefD := ⟨("_law_right", none), "_law_right", "_law_right", defArgs s_law_right, defBody s_law_right, defScope s_law_right, [], []⟩
def d_law : He.DefD := ⟨("law", none), "law", "law", defArgs s_law, defBody s_law, defScope s_law, [], []⟩
def fn : List He.DefD := [d_law_deck, d_law_pick, d_law_kind, d_law_looks, d_law_great, d_law_point, d_cells_of, d_edges, d_is_met, d_good_figures, d_least_reaching, d_edge_points, d_serves, d_spoiler, d_both_served, d_two_points, d_law_right, d_law]
def fa : List He.Fa := [.glo "_law_deck", .glo "_law_pick", .glo "_law_kind", .glo "_law_looks", .glo "_law_great", .glo "_law_point", .glo "cells_of", .glo "edges", .glo "is_met", .glo "good_figures", .glo "least_reaching", .glo "edge_points", .glo "serves", .glo "spoiler", .glo "both_served", .glo "two_points", .glo "_law_right", .glo "law", .free "abs", .free "enumerate", .free "list", .free "max", .free "min", .free "range"]
abbrev R : PySem.W.OpenRow := PySem.W.OpenLaw.row PySem.Challenge.rw_slackfigures_k07_whole_good_figures_serv
abbrev hk : PySem.W.Hook := He.hookD 4 fa fn
def ob (s : PySem.W.SharedT) : He.AlD := He.obsDG 4 fa fn (HandSHeadRun.getT s)
theorem ob_eq (s : PySem.W.SharedT) : ob s = hk.obs s.abs := He.obsDG_eq (HandSHeadRun.getT_eq s)
def loose : List Str := ["edges", "is_met", "good_figures", "cells_of", "serves", "least_reaching", "edge_points", "spoiler", "both_served", "two_points", "_law_deck", "_law_pick", "_law_kind", "_law_great", "_law_looks", "_law_point", "_law_right"]
theorem run (w : World) : HandSHeadRun.RunEq R (PySem.W.view R.prog [20]) hk ob 4000 loose w := by
  intro os
  kernel_rfl
theorem facts {P : Program} {w : World} {K : PySem.W.Frag} {h : Heap} {mg : Str → Option Value} {f : Addr} (X : K.In h) (G : h.Ns mainGlobals mg) (hfa : mg ("law" : Str) = some (.ref f)) (c : He.SaysD fa fn K) :
    ∃ fd : FuncData, (∀ (s : Shared) (v : Value), BindsTo s fd ⟨[v], []⟩ [("script", v)]) ∧ ∀ base : Heap, K.In base → base.Ns mainGlobals mg → FnOk P w K mg base CX0 6 f fd ["script"] (spD K F_law [.sh] .sh) := by
  obtain ⟨fd_law_deck, F_law_deck'⟩ := c.def_ 0 (d := d_law_deck) rfl
  obtain ⟨fd_law_pick, F_law_pick'⟩ := c.def_ 1 (d := d_law_pick) rfl
  obtain ⟨fd_law_kind, F_law_kind'⟩ := c.def_ 2 (d := d_law_kind) rfl
  obtain ⟨fd_law_looks, F_law_looks'⟩ := c.def_ 3 (d := d_law_looks) rfl
  obtain ⟨fd_law_great, F_law_great'⟩ := c.def_ 4 (d := d_law_great) rfl
  obtain ⟨fd_law_point, F_law_point'⟩ := c.def_ 5 (d := d_law_point) rfl
  obtain ⟨fd_cells_of, F_cells_of'⟩ := c.def_ 6 (d := d_cells_of) rfl
  obtain ⟨fd_edges, F_edges'⟩ := c.def_ 7 (d := d_edges) rfl
  obtain ⟨fd_is_met, F_is_met'⟩ := c.def_ 8 (d := d_is_met) rfl
  obtain ⟨fd_good_figures, F_good_figures'⟩ := c.def_ 9 (d := d_good_figures) rfl
  obtain ⟨fd_least_reaching, F_least_reaching'⟩ := c.def_ 10 (d := d_least_reaching) rfl
  obtain ⟨fd_edge_points, F_edge_points'⟩ := c.def_ 11 (d := d_edge_points) rfl
  obtain ⟨fd_serves, F_serves'⟩ := c.def_ 12 (d := d_serves) rfl
  obtain ⟨fd_spoiler, F_spoiler'⟩ := c.def_ 13 (d := d_spoiler) rfl
  obtain ⟨fd_both_served, F_both_served'⟩ := c.def_ 14 (d := d_both_served) rfl
  obtain ⟨fd_two_points, F_two_points'⟩ := c.def_ 15 (d := d_two_points) rfl
  obtain ⟨fd_law_right, F_law_right'⟩ := c.def_ 16 (d := d_law_right) rfl
  obtain ⟨fd_law, F_law'⟩ := c.def_ 17 (d := d_law) rfl
  have hB : ∀ x ∈ bts, mg x = none := by
    intro x hx
    simp only [bts, List.mem_cons, List.not_mem_nil, or_false] at hx
    rcases hx with rfl | rfl | rfl | rfl | rfl | rfl
    · exact He.free_ok X G (c.fact 18 (f := .free "abs") rfl)
    · exact He.free_ok X G (c.fact 19 (f := .free "enumerate") rfl)
    · exact He.free_ok X G (c.fact 20 (f := .free "list") rfl)
    · exact He.free_ok X G (c.fact 21 (f := .free "max") rfl)
    · exact He.free_ok X G (c.fact 22 (f := .free "min") rfl)
    · exact He.free_ok X G (c.fact 23 (f := .free "range") rfl)
  have k_law_deck : ∀ base : Heap, Fk P w K mg base "_law_deck" 1 ["cell", "turn"] (spD K F_law_deck [.sh, .sh] (.ls .sh)) := fun base => ⟨_, _, ok_law_deck F_law_deck' hB, He.glo_ok X G (c.fact 0 (f := .glo "_law_deck") rfl), FunD.kp F_law_deck', FunD.bindsN F_law_deck' fun _ _ _ _ _ _ us hl => match us, hl with | [_, _], _ => rfl⟩
  have k_law_pick : ∀ base : Heap, Fk P w K mg base "_law_pick" 1 ["deck", "many"] (spD K F_law_pick [(.pm (.ls .sh)), .sh] .sh) := fun base => ⟨_, _, ok_law_pick F_law_pick' hB, He.glo_ok X G (c.fact 1 (f := .glo "_law_pick") rfl), FunD.kp F_law_pick', FunD.bindsN F_law_pick' fun _ _ _ _ _ _ us hl => match us, hl with | [_, _], _ => rfl⟩
  have k_law_kind : ∀ base : Heap, Fk P w K mg base "_law_kind" 2 ["deck"] (spD K F_law_kind [(.pm (.ls .sh))] .sh) := fun base => ⟨_, _, ok_law_kind F_law_kind' hB (k_law_pick base), He.glo_ok X G (c.fact 2 (f := .glo "_law_kind") rfl), FunD.kp F_law_kind', FunD.bindsN F_law_kind' fun _ _ _ _ _ _ us hl => match us, hl with | [_], _ => rfl⟩
  have k_law_looks : ∀ base : Heap, Fk P w K mg base "_law_looks" 2 ["deck"] (spD K F_law_looks [(.pm (.ls .sh))] .sh) := fun base => ⟨_, _, ok_law_looks F_law_looks' hB (k_law_pick base), He.glo_ok X G (c.fact 3 (f := .glo "_law_looks") rfl), FunD.kp F_law_looks', FunD.bindsN F_law_looks' fun _ _ _ _ _ _ us hl => match us, hl with | [_], _ => rfl⟩
  have k_law_great : ∀ base : Heap, Fk P w K mg base "_law_great" 2 ["deck", "figures"] (spD K F_law_great [(.pm (.ls .sh)), .sh] .sh) := fun base => ⟨_, _, ok_law_great F_law_great' hB (k_law_pick base), He.glo_ok X G (c.fact 4 (f := .glo "_law_great") rfl), FunD.kp F_law_great', FunD.bindsN F_law_great' fun _ _ _ _ _ _ us hl => match us, hl with | [_, _], _ => rfl⟩
  have k_law_point : ∀ base : Heap, Fk P w K mg base "_law_point" 3 ["deck", "kind", "looks"] (spD K F_law_point [(.pm (.ls .sh)), .sh, .sh] .sh) := fun base => ⟨_, _, ok_law_point F_law_point' hB (k_law_pick base) (k_law_great base), He.glo_ok X G (c.fact 5 (f := .glo "_law_point") rfl), FunD.kp F_law_point', FunD.bindsN F_law_point' fun _ _ _ _ _ _ us hl => match us, hl with | [_, _, _], _ => rfl⟩
  have k_cells_of : ∀ base : Heap, Fk P w K mg base "cells_of" 1 ["kind", "looks", "sight", "point"] (spD K F_cells_of [.sh, .sh, .sh, .sh] .sh) := fun base => ⟨_, _, ok_cells_of F_cells_of' hB, He.glo_ok X G (c.fact 6 (f := .glo "cells_of") rfl), FunD.kp F_cells_of', FunD.bindsN F_cells_of' fun _ _ _ _ _ _ us hl => match us, hl with | [_, _, _, _], _ => rfl⟩
  have k_edges : ∀ base : Heap, Fk P w K mg base "edges" 1 ["looks", "sight", "cell"] (spD K F_edges [.sh, .sh, .sh] .sh) := fun base => ⟨_, _, ok_edges F_edges' hB, He.glo_ok X G (c.fact 7 (f := .glo "edges") rfl), FunD.kp F_edges', FunD.bindsN F_edges' fun _ _ _ _ _ _ us hl => match us, hl with | [_, _, _], _ => rfl⟩
  have k_is_met : ∀ base : Heap, Fk P w K mg base "is_met" 2 ["kind", "looks", "sight", "cell"] (spD K F_is_met [.sh, .sh, .sh, .sh] .sh) := fun base => ⟨_, _, ok_is_met F_is_met' hB (k_edges base), He.glo_ok X G (c.fact 8 (f := .glo "is_met") rfl), FunD.kp F_is_met', FunD.bindsN F_is_met' fun _ _ _ _ _ _ us hl => match us, hl with | [_, _, _, _], _ => rfl⟩
  have k_good_figures : ∀ base : Heap, Fk P w K mg base "good_figures" 3 ["kind", "looks", "sight", "cell"] (spD K F_good_figures [.sh, .sh, .sh, .sh] .sh) := fun base => ⟨_, _, ok_good_figures F_good_figures' hB (k_is_met base) (k_edges base), He.glo_ok X G (c.fact 9 (f := .glo "good_figures") rfl), FunD.kp F_good_figures', FunD.bindsN F_good_figures' fun _ _ _ _ _ _ us hl => match us, hl with | [_, _, _, _], _ => rfl⟩
  have k_least_reaching : ∀ base : Heap, Fk P w K mg base "least_reaching" 1 ["kind", "rest"] (spD K F_least_reaching [.sh, .sh] .sh) := fun base => ⟨_, _, ok_least_reaching F_least_reaching' hB, He.glo_ok X G (c.fact 10 (f := .glo "least_reaching") rfl), FunD.kp F_least_reaching', FunD.bindsN F_least_reaching' fun _ _ _ _ _ _ us hl => match us, hl with | [_, _], _ => rfl⟩
  have k_edge_points : ∀ base : Heap, Fk P w K mg base "edge_points" 2 ["kind", "looks", "sight", "cell", "wide"] (spD K F_edge_points [.sh, .sh, .sh, .sh, .sh] .sh) := fun base => ⟨_, _, ok_edge_points F_edge_points' hB (k_least_reaching base), He.glo_ok X G (c.fact 11 (f := .glo "edge_points") rfl), FunD.kp F_edge_points', FunD.bindsN F_edge_points' fun _ _ _ _ _ _ us hl => match us, hl with | [_, _, _, _, _], _ => rfl⟩
  have k_serves : ∀ base : Heap, Fk P w K mg base "serves" 1 ["kind", "figure", "point"] (spD K F_serves [.sh, .sh, .sh] .sh) := fun base => ⟨_, _, ok_serves F_serves' hB, He.glo_ok X G (c.fact 12 (f := .glo "serves") rfl), FunD.kp F_serves', FunD.bindsN F_serves' fun _ _ _ _ _ _ us hl => match us, hl with | [_, _, _], _ => rfl⟩
  have k_spoiler : ∀ base : Heap, Fk P w K mg base "spoiler" 4 ["kind", "looks", "sight", "cell", "figure"] (spD K F_spoiler [.sh, .sh, .sh, .sh, .sh] .sh) := fun base => ⟨_, _, ok_spoiler F_spoiler' hB (k_good_figures base) (k_edge_points base) (k_serves base), He.glo_ok X G (c.fact 13 (f := .glo "spoiler") rfl), FunD.kp F_spoiler', FunD.bindsN F_spoiler' fun _ _ _ _ _ _ us hl => match us, hl with | [_, _, _, _, _], _ => rfl⟩
  have k_both_served : ∀ base : Heap, Fk P w K mg base "both_served" 2 ["kind", "one", "other"] (spD K F_both_served [.sh, .sh, .sh] .sh) := fun base => ⟨_, _, ok_both_served F_both_served' hB (k_serves base), He.glo_ok X G (c.fact 14 (f := .glo "both_served") rfl), FunD.kp F_both_served', FunD.bindsN F_both_served' fun _ _ _ _ _ _ us hl => match us, hl with | [_, _, _], _ => rfl⟩
  have k_two_points : ∀ base : Heap, Fk P w K mg base "two_points" 4 ["kind", "looks", "sight", "cell"] (spD K F_two_points [.sh, .sh, .sh, .sh] .sh) := fun base => ⟨_, _, ok_two_points F_two_points' hB (k_is_met base) (k_good_figures base) (k_edge_points base) (k_both_served base), He.glo_ok X G (c.fact 15 (f := .glo "two_points") rfl), FunD.kp F_two_points', FunD.bindsN F_two_points' fun _ _ _ _ _ _ us hl => match us, hl with | [_, _, _, _], _ => rfl⟩
  have k_law_right : ∀ base : Heap, Fk P w K mg base "_law_right" 5 ["kind", "looks", "sight", "point"] (spD K F_law_right [.sh, .sh, .sh, .sh] .sh) := fun base => ⟨_, _, ok_law_right F_law_right' hB (k_cells_of base) (k_is_met base) (k_good_figures base) (k_serves base) (k_spoiler base) (k_two_points base), He.glo_ok X G (c.fact 16 (f := .glo "_law_right") rfl), FunD.kp F_law_right', FunD.bindsN F_law_right' fun _ _ _ _ _ _ us hl => match us, hl with | [_, _, _, _], _ => rfl⟩
  have e := hfa.symm.trans (He.glo_ok X G (c.fact 17 (f := .glo "law") rfl))
  cases e
  have b := FunD.bindsA (ps := ["script"]) F_law' fun _ _ _ _ _ _ us hl => match us, hl with | [_], _ => rfl
  exact ⟨fd_law, fun s v => b s [v] rfl, fun base _ _ => ok_law F_law' hB (k_law_deck base) (k_law_kind base) (k_law_looks base) (k_law_point base) (k_law_right base)⟩
end S
open PySem PySem.W PySem.Calls PyProof.Rows
set_option maxRecDepth 100000 in
set_option maxHeartbeats 0 in
theorem PySem.Challenge.cw_slackfigures_k07_whole_good_figures_serv_holds : PySem.Challenge.rw_slackfigures_k07_whole_good_figures_serv.Holds := by
  w_on; o_law
  refine HandSHeadRun.head_any (r := OpenLaw.row PySem.Challenge.rw_slackfigures_k07_whole_good_figures_serv) (q := view (OpenLaw.row PySem.Challenge.rw_slackfigures_k07_whole_good_figures_serv).prog [20]) (H := S.hk) (ob := S.ob) (M := 4000) (loose := S.loose) (d := HandSHeadRun.topDef (OpenLaw.row PySem.Challenge.rw_slackfigures_k07_whole_good_figures_serv).prog 20) (kwd := []) S.ob_eq
    (by kernel_rfl) (fun s => by kernel_rfl) S.run (by kernel_rfl) (by kernel_rfl) (by kernel_rfl) (by rfl) (by first | assumption | decide +kernel) (by decide +kernel) ⟨rfl, rfl, rfl, rfl, rfl, by decide +kernel⟩ ?hw ?hc
  case hw => w_witness2
  case hc =>
    refine L2.walk_ofE (l := PySem.Challenge.rw_slackfigures_k07_whole_good_figures_serv) (n := 63) (k := 6) (x := "script") (CX := L2.CX0) rfl (by decide) (by kernel_rfl) ⟨rfl, by decide, by decide⟩ ?F (fun _ _ _ _ z => z)
    intro w mg fa h Y G hmg0
    obtain ⟨K, KX, c⟩ := Y
    have hmg : mg ("law" : PySem.Str) = some (.ref fa) := by
      have e : (HandSHeadRun.topDef (OpenLaw.row PySem.Challenge.rw_slackfigures_k07_whole_good_figures_serv).prog 20).name = ("law" : PySem.Str) := by kernel_rfl
      rw [← e]
      exact hmg0
    obtain ⟨fd, hb, hF⟩ := S.facts (P := (PySem.Challenge.rw_slackfigures_k07_whole_good_figures_serv).prog) (w := w) KX G hmg c
    exact ⟨K, fd, Z.spD K S.F_law [.sh] .sh, KX, hb, fun H a ns hl _ hS => Z.law_sp S.law_true H a ns hl hS _, hF⟩
