import PyProof.Rows.All
import Wide.All
import OpenK.AllK
import Wide.FinOn
import HandS.ForMost
import HandS.ForExc
import HandS.Wide
import HandS.WideBits
import HandS.IsInst
import HandS.Conv
import HandS.NoneIn
import HandS.TupAny
import HandS.Head0
import HandS.Head1
import HandS.Head2
import HandS.HeadEnd
import HandS.HeadHook1
import HandS.HeadHook2
import HandS.RevRange
import HandS.Flow
import HandS.Comp
import HandS.Style
import HandS.Iter
import KE.KMinKey
import HandS.SortKw
import HandS.More
import PySem.Challenge.RW_slackfigures_k22_good_for_roots
set_option Elab.async false
set_option linter.all false
set_option maxRecDepth 100000
namespace Z
open PySem L2
abbrev D := PyData
abbrev DS := List (Option D)
abbrev Fg := PySem.W.Frag
/-- how a slot's thing is held: read alone; a list of one's own; a parameter that is one's own for the call; a dict of one's own;
an object of one's own, of one of these classes, with the fields that are one's own by their kinds -/
inductive Kd where
  | sh : Kd
  | ls : Kd → Kd
  | pm : Kd → Kd
  | dc : Kd
  | oe : List (Str × Addr) → Kd
  | of : Str → Kd → Kd → Kd
  | te : Kd
  | tc : Kd → Kd → Kd
  | op : Kd → Kd
  | xr : Addr → Kd
deriving DecidableEq
inductive All3 {α β γ : Type} (P : α → β → γ → Prop) : List α → List β → List γ → Prop
  | nil : All3 P [] [] []
  | cons {a b c as bs cs} : P a b c → All3 P as bs cs → All3 P (a :: as) (b :: bs) (c :: cs)
abbrev OwR := V → D → List Addr → Prop
/-- the keys of dicts -/
def keyD : Key → D
  | .inl i => .int i
  | .inr x => .str x
inductive KvR (K : Fg) (F : Hp) {κ : Type} (kd : κ → D) : List (κ × V) → List (D × D) → Prop
  | nil : KvR K F kd [] []
  | cons {k v d kvs ds} : Dp K F v d → KvR K F kd kvs ds → KvR K F kd ((k, v) :: kvs) ((kd k, d) :: ds)
def DcO (K : Fg) (F H : Hp) : OwR := fun v d fp => ∃ p dk, v = .ref p ∧ d = .dict dk ∧ fp = [p] ∧ ((∃ kvs, H p = some (.dK kvs) ∧ KvR K F keyD kvs dk) ∨ ∃ kvs, H p = some (.dT kvs) ∧ KvR K F (fun l : List Key => .tuple (l.map keyD)) kvs dk)
inductive FlO (R : Str → OwR) : List (Str × V) → List (D × D) → List (List Addr) → Prop
  | nil : FlO R [] [] []
  | cons {f v d fp vs ds fs} : R f v d fp → FlO R vs ds fs → FlO R ((f, v) :: vs) ((.str f, d) :: ds) (fp :: fs)
def ObO (H : Hp) (R : Str → OwR) (cs : List (Str × Addr)) : OwR := fun v d fp => ∃ p C dx cls fs ds gs, v = .ref p ∧ d = .dict ((.none, .str cls) :: ds) ∧ H p = some (.ins C dx fs) ∧ H dx = some (.own p) ∧ cs.lookup cls = some C ∧ fp = p :: dx :: gs.flatten ∧ FlO R fs ds gs
abbrev TowR := List V → List D → List (List Addr) → Prop
def TpO (H : Hp) (R : TowR) : OwR := fun v d fp => ∃ p xs ds fs, v = .ref p ∧ d = .tuple ds ∧ H p = some (.tup xs) ∧ fp = p :: fs.flatten ∧ R xs ds fs
def TcR (A : OwR) (R : TowR) : TowR := fun xs ds fs => ∃ x d f xr dr fr, xs = x :: xr ∧ ds = d :: dr ∧ fs = f :: fr ∧ A x d f ∧ R xr dr fr
structure Ow2R where
  a : OwR
  f : Str → OwR
  c : List (Str × Addr)
  t : TowR
def ShO (K : Fg) (F : Hp) : OwR := fun v d fp => fp = [] ∧ Dp K F v d
/-- the kind of a thing; of a field; an object's classes; of a tuple's things -/
def Ow2 (K : Fg) (F H : Hp) : Kd → Ow2R
  | .sh => ⟨ShO K F, fun _ => ShO K F, [], fun _ _ _ => False⟩
  | .ls k => ⟨fun v d fp => ∃ p xs ds fs, v = .ref p ∧ d = .list ds ∧ H p = some (.lst xs) ∧ fp = p :: fs.flatten ∧ All3 (Ow2 K F H k).a xs ds fs, fun _ => ShO K F, [], fun _ _ _ => False⟩
  | .pm k => ⟨(Ow2 K F H k).a, fun _ => ShO K F, [], fun _ _ _ => False⟩
  | .dc => ⟨DcO K F H, fun _ => ShO K F, [], fun _ _ _ => False⟩
  | .oe cs => ⟨ObO H (fun _ => ShO K F) cs, fun _ => ShO K F, cs, fun _ _ _ => False⟩
  | .of f k r => ⟨ObO H (fun g => if g = f then (Ow2 K F H k).a else (Ow2 K F H r).f g) (Ow2 K F H r).c, fun g => if g = f then (Ow2 K F H k).a else (Ow2 K F H r).f g, (Ow2 K F H r).c, fun _ _ _ => False⟩
  | .te => ⟨TpO H (fun xs ds fs => xs = [] ∧ ds = [] ∧ fs = []), fun _ => ShO K F, [], fun xs ds fs => xs = [] ∧ ds = [] ∧ fs = []⟩
  | .tc k r => ⟨TpO H (TcR (Ow2 K F H k).a (Ow2 K F H r).t), fun _ => ShO K F, [], TcR (Ow2 K F H k).a (Ow2 K F H r).t⟩
  | .op k => ⟨fun v d fp => (v = .non ∧ d = .none ∧ fp = []) ∨ (Ow2 K F H k).a v d fp, fun _ => ShO K F, [], fun _ _ _ => False⟩
  | .xr a => ⟨fun v _ fp => v = .ref a ∧ fp = [], fun _ => ShO K F, [], fun _ _ _ => False⟩
def Ow (K : Fg) (F H : Hp) (k : Kd) : OwR := (Ow2 K F H k).a
theorem All3.imp {α β γ : Type} {P Q : α → β → γ → Prop} : ∀ {xs ys zs}, All3 P xs ys zs → (∀ a b c, c ∈ zs → P a b c → Q a b c) → All3 Q xs ys zs
  | _, _, _, .nil, _ => .nil
  | _, _, _, .cons h t, f => .cons (f _ _ _ (List.mem_cons_self) h) (t.imp fun a b c hc => f a b c (List.mem_cons_of_mem _ hc))
theorem All3.len {α β γ : Type} {P : α → β → γ → Prop} : ∀ {xs ys zs}, All3 P xs ys zs → xs.length = ys.length ∧ zs.length = ys.length
  | _, _, _, .nil => ⟨rfl, rfl⟩
  | _, _, _, .cons _ t => by
    have h := t.len
    simp only [List.length_cons]
    omega
theorem sqL_mono {K : Fg} {H H' : Hp} (e : Same H H') {a : Addr} {xs : List V} (h : SqL K H a xs) : SqL K H' a xs := e.seq h
theorem sqT_mono {K : Fg} {H H' : Hp} (e : Same H H') {a : Addr} {xs : List V} (h : SqT K H a xs) : SqT K H' a xs := by
  rcases h with (h | ⟨o, h⟩) | h
  · exact .inl (.inl (e _ _ h))
  · exact .inl (.inr ⟨o, e _ _ h⟩)
  · exact .inr h
mutual
theorem dp_mono {K : Fg} {H H' : Hp} (e : Same H H') : ∀ {v : V} {d : D}, Dp K H v d → Dp K H' v d
  | _, _, .non => .non
  | _, _, .bl b => .bl b
  | _, _, .int i => .int i
  | _, _, .str x => .str x
  | _, _, .lst h r => .lst (sqL_mono e h) (dpa_mono e r)
  | _, _, .tup h r => .tup (sqT_mono e h) (dpa_mono e r)
theorem dpa_mono {K : Fg} {H H' : Hp} (e : Same H H') : ∀ {vs : List V} {ds : List D}, DpAll K H vs ds → DpAll K H' vs ds
  | _, _, .nil => .nil
  | _, _, .cons h r => .cons (dp_mono e h) (dpa_mono e r)
end
theorem kvR_mono {K : Fg} {F F' : Hp} {κ : Type} {kd : κ → D} (e : Same F F') : ∀ {kvs : List (κ × V)} {ds : List (D × D)}, KvR K F kd kvs ds → KvR K F' kd kvs ds
  | _, _, .nil => .nil
  | _, _, .cons h t => .cons (dp_mono e h) (kvR_mono e t)
theorem dcO_mono {K : Fg} {F F' H H' : Hp} (e : Same F F') {v : V} {d : D} {fp : List Addr} (h : DcO K F H v d fp) (g : ∀ q ∈ fp, H' q = H q) : DcO K F' H' v d fp := by
  obtain ⟨p, dk, rfl, rfl, rfl, h⟩ := h
  refine ⟨p, dk, rfl, rfl, rfl, ?_⟩
  rw [g p (by simp)]
  rcases h with ⟨kvs, a, b⟩ | ⟨kvs, a, b⟩
  · exact .inl ⟨kvs, a, kvR_mono e b⟩
  · exact .inr ⟨kvs, a, kvR_mono e b⟩
theorem FlO.imp {R R' : Str → OwR} : ∀ {vs : List (Str × V)} {ds : List (D × D)} {fs : List (List Addr)}, FlO R vs ds fs → (∀ f v d fp, fp ∈ fs → R f v d fp → R' f v d fp) → FlO R' vs ds fs
  | _, _, _, .nil, _ => .nil
  | _, _, _, .cons h t, g => .cons (g _ _ _ _ List.mem_cons_self h) (t.imp fun f v d fp hm => g f v d fp (List.mem_cons_of_mem _ hm))
theorem obO_mono {H H' : Hp} {R R' : Str → OwR} {cs : List (Str × Addr)} {v : V} {d : D} {fp : List Addr} (h : ObO H R cs v d fp) (g : ∀ q ∈ fp, H' q = H q) (hR : ∀ f v d fp', (∀ q ∈ fp', q ∈ fp) → R f v d fp' → R' f v d fp') : ObO H' R' cs v d fp := by
  obtain ⟨p, C, dx, cls, fs, ds, gs, rfl, rfl, h1, h2, h3, rfl, h4⟩ := h
  refine ⟨p, C, dx, cls, fs, ds, gs, rfl, rfl, by rw [g p (by simp)]; exact h1, by rw [g dx (by simp)]; exact h2, h3, rfl, h4.imp fun f v d fp hm hr => hR f v d fp (fun q hq => ?_) hr⟩
  exact List.mem_cons_of_mem _ (List.mem_cons_of_mem _ (List.mem_flatten.mpr ⟨fp, hm, hq⟩))
theorem tpO_mono {H H' : Hp} {R R' : TowR} {v : V} {d : D} {fp : List Addr} (h : TpO H R v d fp) (g : ∀ q ∈ fp, H' q = H q) (hR : ∀ xs ds fs, (∀ f ∈ fs, ∀ q ∈ f, q ∈ fp) → R xs ds fs → R' xs ds fs) : TpO H' R' v d fp := by
  obtain ⟨p, xs, ds, fs, rfl, rfl, hp, rfl, al⟩ := h
  exact ⟨p, xs, ds, fs, rfl, rfl, by rw [g p List.mem_cons_self]; exact hp, rfl, hR xs ds fs (fun f hf q hq => List.mem_cons_of_mem _ (List.mem_flatten.mpr ⟨f, hf, hq⟩)) al⟩
theorem ow2_mono {K : Fg} {F F' H H' : Hp} (e : Same F F') : ∀ k : Kd, (∀ v d fp, (Ow2 K F H k).a v d fp → (∀ q ∈ fp, H' q = H q) → (Ow2 K F' H' k).a v d fp) ∧
    (∀ g v d fp, (Ow2 K F H k).f g v d fp → (∀ q ∈ fp, H' q = H q) → (Ow2 K F' H' k).f g v d fp) ∧ (Ow2 K F H k).c = (Ow2 K F' H' k).c ∧
    (∀ xs ds fs, (Ow2 K F H k).t xs ds fs → (∀ f ∈ fs, ∀ q ∈ f, H' q = H q) → (Ow2 K F' H' k).t xs ds fs) := by
  intro k
  have sh : ∀ v d fp, ShO K F v d fp → (∀ q ∈ fp, H' q = H q) → ShO K F' v d fp := fun v d fp h _ => ⟨h.1, dp_mono e h.2⟩
  have no : ∀ xs ds fs, False → (∀ f ∈ fs, ∀ q ∈ f, H' q = H q) → False := fun (_ : List V) (_ : List D) (_ : List (List Addr)) h _ => h
  induction k with
  | sh => exact ⟨sh, fun _ => sh, rfl, no⟩
  | ls k ih =>
    refine ⟨fun v d fp h g => ?_, fun _ => sh, rfl, no⟩
    obtain ⟨p, xs, ds, fs, rfl, rfl, hp, rfl, al⟩ := h
    exact ⟨p, xs, ds, fs, rfl, rfl, by rw [g p List.mem_cons_self]; exact hp, rfl, al.imp fun a b c hc q => ih.1 a b c q fun r hr => g r (List.mem_cons_of_mem _ (List.mem_flatten.mpr ⟨c, hc, hr⟩))⟩
  | pm k ih => exact ⟨ih.1, fun _ => sh, rfl, no⟩
  | dc => exact ⟨fun v d fp h g => dcO_mono e h g, fun _ => sh, rfl, no⟩
  | oe cs => exact ⟨fun v d fp h g => obO_mono h g fun f v d fp' hs hr => sh v d fp' hr fun q hq => g q (hs q hq), fun _ => sh, rfl, no⟩
  | of f k r ih1 ih2 =>
    have key : ∀ g v d fp, (if g = f then (Ow2 K F H k).a else (Ow2 K F H r).f g) v d fp → (∀ q ∈ fp, H' q = H q) → (if g = f then (Ow2 K F' H' k).a else (Ow2 K F' H' r).f g) v d fp := fun g v d fp h hq => by
      by_cases z : g = f
      · rw [if_pos z] at h ⊢; exact ih1.1 v d fp h hq
      · rw [if_neg z] at h ⊢; exact ih2.2.1 g v d fp h hq
    refine ⟨fun v d fp h g => ?_, key, ih2.2.2.1, no⟩
    have h' : ObO H (fun g => if g = f then (Ow2 K F H k).a else (Ow2 K F H r).f g) (Ow2 K F H r).c v d fp := h
    rw [ih2.2.2.1] at h'
    exact obO_mono h' g fun f v d fp' hs hr => key f v d fp' hr fun q hq => g q (hs q hq)
  | te => exact ⟨fun v d fp h g => tpO_mono h g fun _ _ _ _ z => z, fun _ => sh, rfl, fun _ _ _ z _ => z⟩
  | tc k r ih1 ih2 =>
    have key : ∀ xs ds fs, TcR (Ow2 K F H k).a (Ow2 K F H r).t xs ds fs → (∀ f ∈ fs, ∀ q ∈ f, H' q = H q) → TcR (Ow2 K F' H' k).a (Ow2 K F' H' r).t xs ds fs := fun xs ds fs h g => by
      obtain ⟨x, d, f, xr, dr, fr, rfl, rfl, rfl, h1, h2⟩ := h
      exact ⟨x, d, f, xr, dr, fr, rfl, rfl, rfl, ih1.1 x d f h1 (g f (by simp)), ih2.2.2.2 xr dr fr h2 fun f' hf => g f' (by simp [hf])⟩
    exact ⟨fun v d fp h g => tpO_mono h g fun xs ds fs hs z => key xs ds fs z fun f hf q hq => g q (hs f hf q hq), fun _ => sh, rfl, key⟩
  | op k ih => exact ⟨fun v d fp h g => h.imp id fun z => ih.1 v d fp z g, fun _ => sh, rfl, no⟩
  | xr a => exact ⟨fun v d fp h _ => h, fun _ => sh, rfl, no⟩
theorem ow_mono {K : Fg} {F F' H H' : Hp} (e : Same F F') {k : Kd} {v : V} {d : D} {fp : List Addr} (h : Ow K F H k v d fp) (g : ∀ q ∈ fp, H' q = H q) : Ow K F' H' k v d fp := (ow2_mono e k).1 v d fp h g
def isPm : Option Kd → Bool
  | some (.pm _) => true
  | _ => false
/-- the entry of a def: what is read there, its whole heap, the parameters' own things -/
structure Ctx where
  F0 : Hp
  H0 : Hp
  own : Addr → Prop
  ps : List Kd
  rk : Kd
  arg : Nat → V
  /-- the module's names; what is wished of an exception; the holds at which one may be raised -/
  mg : Str → Option Value
  W : WX
  Ox : Option (List Kd)
/-- an exception: its class, its fields -/
structure Xc where
  c : Str
  fs : List (Str × D)
structure Rel (K : Fg) (c : Ctx) (O : List Kd) (F H : Hp) (σ : St) (fps : Nat → List Addr) (ds : DS) : Prop where
  sub : Same F H
  base : Same c.F0 F
  keep : ∀ b o, c.H0 b = some o → ¬ c.own b → H b = some o
  live : ∀ b, H b = none → c.H0 b = none
  new : ∀ b o, F b = some o → c.F0 b = some o ∨ c.H0 b = none
  slots : ∀ i d, ds[i]? = some (some d) → ∃ v, σ[i]? = some (some v) ∧ Ow K F H (O.getD i .sh) v d (fps i)
  off : ∀ i q, q ∈ fps i → F q = none ∧ H q ≠ none ∧ (c.H0 q = none ∨ (c.own q ∧ isPm O[i]? = true))
  nd : ∀ i, (fps i).Nodup
  dj : ∀ i j, i ≠ j → ∀ q, q ∈ fps i → q ∉ fps j
  par : ∀ i k, c.ps[i]? = some (.pm k) → O[i]? = some (.pm k) ∧ σ[i]? = some (some (c.arg i))
  len : σ.length = ds.length
inductive R (α : Type) where
  | ok (a : α) (s : DS)
  | no
abbrev M (α : Type) := DS → R α
/-- statements' ends -/
inductive RS where
  | nx (s : DS)
  | rt (d : D) (s : DS)
  | bk (s : DS)
  | ct (s : DS)
  | ex (x : Xc) (s : DS)
  | no
abbrev MS := DS → RS
structure DE (K : Fg) (c : Ctx) (O : List Kd) (t : TE) (m : M D) : Prop where
  run : ∀ {F H : Hp} {σ : St} {fps : Nat → List Addr} {ds ds' : DS} {d : D}, Rel K c O F H σ fps ds → m ds = .ok d ds' → ∀ Q : VK,
    (∀ F' H' fps' v, Same F F' → Rel K c O F' H' σ fps' ds' → Dp K F' v d → Q v H') → t σ H Q
structure DT (K : Fg) (c : Ctx) (O : List Kd) (t : TT) (m : M Bool) : Prop where
  run : ∀ {F H : Hp} {σ : St} {fps : Nat → List Addr} {ds ds' : DS} {b : Bool}, Rel K c O F H σ fps ds → m ds = .ok b ds' → ∀ Q : Bool → Hp → Prop,
    (∀ F' H' fps', Same F F' → Rel K c O F' H' σ fps' ds' → Q b H') → t σ H Q
structure DA (K : Fg) (c : Ctx) (O : List Kd) (t : TA) (m : M (List D)) : Prop where
  run : ∀ {F H : Hp} {σ : St} {fps : Nat → List Addr} {ds ds' : DS} {es : List D}, Rel K c O F H σ fps ds → m ds = .ok es ds' → ∀ Q : List V → Hp → Prop,
    (∀ F' H' fps' vs, Same F F' → Rel K c O F' H' σ fps' ds' → DpAll K F' vs es → Q vs H') → t σ H Q
/-- an expression that makes a thing of one's own -/
structure DO (K : Fg) (c : Ctx) (O : List Kd) (k : Kd) (t : TE) (m : M D) : Prop where
  run : ∀ {F H : Hp} {σ : St} {fps : Nat → List Addr} {ds ds' : DS} {d : D}, Rel K c O F H σ fps ds → m ds = .ok d ds' → ∀ Q : VK,
    (∀ F' H' fps' v fpv, Same F F' → Rel K c O F' H' σ fps' ds' → Ow K F' H' k v d fpv → (∀ q ∈ fpv, F' q = none ∧ H' q ≠ none ∧ c.H0 q = none ∧ ∀ i, q ∉ fps' i) → fpv.Nodup → Q v H') → t σ H Q
inductive FsR (K : Fg) (F : Hp) : List (Str × V) → List (Str × D) → Prop
  | nil : FsR K F [] []
  | cons {f v d vs ds} : Dp K F v d → FsR K F vs ds → FsR K F ((f, v) :: vs) ((f, d) :: ds)
/-- what the exception's class and dict are -/
def ExOk (K : Fg) (mg : Str → Option Value) (F : Hp) (x : Xc) (cls : Value) (dd : Option Addr) : Prop :=
  mg x.c = some cls ∧ ((x.fs = [] ∧ dd = none) ∨ ∃ d ws, dd = some d ∧ F d = some (.xd ws) ∧ FsR K F ws x.fs)
def Post (K : Fg) (c : Ctx) (Ob O' : List Kd) (F : Hp) (E : Ends) : RS → Prop
  | .nx ds' => ∀ F' H' σ' fps', Same F F' → Rel K c O' F' H' σ' fps' ds' → E.nx σ' H'
  | .bk ds' => ∀ F' H' σ' fps', Same F F' → Rel K c Ob F' H' σ' fps' ds' → E.bk σ' H'
  | .ct ds' => ∀ F' H' σ' fps', Same F F' → Rel K c Ob F' H' σ' fps' ds' → E.ct σ' H'
  | .rt d ds' => ∀ F' H' σ' fps' O'' v fpv, Same F F' → Rel K c O'' F' H' σ' fps' ds' → Ow K F' H' c.rk v d fpv → (∀ q ∈ fpv, F' q = none ∧ H' q ≠ none ∧ c.H0 q = none ∧ ∀ i, c.ps[i]?.isSome = true → q ∉ fps' i) → fpv.Nodup → E.rt v H'
  | .ex x ds' => ∀ F' H' σ' fps' O'' cls dd, (∀ o, c.Ox = some o → O'' = o) → Same F F' → Rel K c O'' F' H' σ' fps' ds' → ExOk K c.mg F' x cls dd → c.W cls dd σ' H'
  | .no => False
structure DC (K : Fg) (c : Ctx) (Ob O : List Kd) (t : TS) (m : MS) (O' : List Kd) : Prop where
  run : ∀ {F H : Hp} {σ : St} {fps : Nat → List Addr} {ds : DS}, Rel K c O F H σ fps ds → ∀ E : Ends, Post K c Ob O' F E (m ds) → t E σ H
end Z
set_option Elab.async false
set_option linter.all false
set_option maxRecDepth 100000
namespace Z
open PySem L2
/-! ### moves of the relation -/
section
variable {K : Fg} {c : Ctx} {O : List Kd} {F H : Hp} {σ : St} {fps : Nat → List Addr} {ds : DS}
theorem Rel.fresh (r : Rel K c O F H σ fps ds) {p : Addr} (h : H p = none) : F p = none ∧ c.H0 p = none ∧ ∀ i, p ∉ fps i :=
  ⟨r.sub.free h, r.live p h, fun i hi => (r.off i p hi).2.1 h⟩
theorem same_upd {F : Hp} {p : Addr} {o : HO} (h : F p = none) : Same F (upd F p o) := fun b u e => by rw [upd_ne (ne_of_none e h)]; exact e
/-- a new thing, to be read from now on -/
theorem Rel.alloc (r : Rel K c O F H σ fps ds) {p : Addr} (h : H p = none) (o : HO) : Rel K c O (upd F p o) (upd H p o) σ fps ds := by
  obtain ⟨hF, h0, hq⟩ := r.fresh h
  have sF : Same F (upd F p o) := same_upd hF
  refine ⟨fun b u e => ?_, r.base.trans sF, fun b u e n => ?_, fun b e => ?_, fun b u e => ?_, fun i d e => ?_, fun i q hqi => ?_, r.nd, r.dj, r.par, r.len⟩
  · by_cases hb : b = p
    · subst hb; rw [upd_same] at e ⊢; exact e
    · rw [upd_ne hb] at e ⊢; exact r.sub b u e
  · have hb : b ≠ p := fun z => by subst z; rw [h0] at e; cases e
    rw [upd_ne hb]; exact r.keep b u e n
  · by_cases hb : b = p
    · subst hb; rw [upd_same] at e; cases e
    · rw [upd_ne hb] at e; exact r.live b e
  · by_cases hb : b = p
    · subst hb; exact .inr h0
    · rw [upd_ne hb] at e; exact r.new b u e
  · obtain ⟨v, hv, ho⟩ := r.slots i d e
    exact ⟨v, hv, ow_mono sF ho fun q hq' => upd_ne fun z => by subst z; exact hq i hq'⟩
  · obtain ⟨a, b, cc⟩ := r.off i q hqi
    have hb : q ≠ p := fun z => by subst z; exact hq i hqi
    rw [upd_ne hb, upd_ne hb]; exact ⟨a, b, cc⟩
/-- a new thing of one's own -/
theorem Rel.allocO (r : Rel K c O F H σ fps ds) {p : Addr} (h : H p = none) (o : HO) : Rel K c O F (upd H p o) σ fps ds := by
  obtain ⟨hF, h0, hq⟩ := r.fresh h
  refine ⟨fun b u e => ?_, r.base, fun b u e n => ?_, fun b e => ?_, r.new, fun i d e => ?_, fun i q hqi => ?_, r.nd, r.dj, r.par, r.len⟩
  · rw [upd_ne (ne_of_none e hF)]; exact r.sub b u e
  · have hb : b ≠ p := fun z => by subst z; rw [h0] at e; cases e
    rw [upd_ne hb]; exact r.keep b u e n
  · by_cases hb : b = p
    · subst hb; rw [upd_same] at e; cases e
    · rw [upd_ne hb] at e; exact r.live b e
  · obtain ⟨v, hv, ho⟩ := r.slots i d e
    exact ⟨v, hv, ow_mono (Same.refl _) ho fun q hq' => upd_ne fun z => by subst z; exact hq i hq'⟩
  · obtain ⟨a, b, cc⟩ := r.off i q hqi
    have hb : q ≠ p := fun z => by subst z; exact hq i hqi
    rw [upd_ne hb]; exact ⟨a, b, cc⟩
/-- a slot's thing -/
theorem Rel.get (r : Rel K c O F H σ fps ds) {i : Nat} {d : D} (h : ds[i]? = some (some d)) : ∃ v, σ[i]? = some (some v) ∧ Ow K F H (O.getD i .sh) v d (fps i) := r.slots i d h
theorem getD_set_ne {O : List Kd} {i j : Nat} {k : Kd} (h : j ≠ i) : (O.set i k).getD j .sh = O.getD j .sh := by
  simp only [List.getD_eq_getElem?_getD]
  rw [List.getElem?_set_ne (Ne.symm h)]
theorem getD_set_eq {O : List Kd} {i : Nat} {k : Kd} (h : i < O.length) : (O.set i k).getD i .sh = k := by
  simp only [List.getD_eq_getElem?_getD]
  rw [List.getElem?_set_self h]; rfl
/-- a slot is given a thing -/
theorem Rel.put (r : Rel K c O F H σ fps ds) {i : Nat} {k : Kd} {v : V} {d : D} {fpv : List Addr} (hi : i < O.length) (hp : isPm O[i]? = false) (ho : Ow K F H k v d fpv)
    (hf : ∀ q ∈ fpv, F q = none ∧ H q ≠ none ∧ c.H0 q = none ∧ ∀ j, j ≠ i → q ∉ fps j) (nd : fpv.Nodup) :
    Rel K c (O.set i k) F H (σ.set i (some v)) (fun j => if j = i then fpv else fps j) (ds.set i (some d)) := by
  have hne : ∀ j k', c.ps[j]? = some (.pm k') → j ≠ i := fun j k' h z => by
    subst z
    rw [(r.par j k' h).1] at hp
    exact absurd hp (by simp [isPm])
  refine ⟨r.sub, r.base, r.keep, r.live, r.new, fun j e hj => ?_, fun j q hq => ?_, fun j => ?_, fun j l hjl q hq hq' => ?_, fun j k' h => ?_, by rw [List.length_set, List.length_set]; exact r.len⟩
  · by_cases z : j = i
    · subst z
      have hl : j < ds.length := by
        cases Nat.lt_or_ge j ds.length with
        | inl h => exact h
        | inr h => rw [List.getElem?_eq_none (by rw [List.length_set]; exact h)] at hj; cases hj
      rw [List.getElem?_set_self hl] at hj
      have e' : e = d := (Option.some.inj (Option.some.inj hj)).symm
      subst e'
      refine ⟨v, by rw [List.getElem?_set_self (by rw [r.len]; exact hl)], ?_⟩
      rw [getD_set_eq hi]
      simp only [if_pos]
      exact ho
    · rw [List.getElem?_set_ne (Ne.symm z)] at hj
      obtain ⟨u, hu, w⟩ := r.slots j e hj
      refine ⟨u, by rw [List.getElem?_set_ne (Ne.symm z)]; exact hu, ?_⟩
      rw [getD_set_ne z]
      simp only [if_neg z]
      exact w
  · by_cases z : j = i
    · simp only [z, if_pos] at hq
      obtain ⟨a, b, c', _⟩ := hf q hq
      exact ⟨a, b, .inl c'⟩
    · simp only [if_neg z] at hq
      rw [List.getElem?_set_ne (Ne.symm z)]
      exact r.off j q hq
  · by_cases z : j = i
    · simp only [z, if_pos]; exact nd
    · simp only [if_neg z]; exact r.nd j
  · by_cases z : j = i
    · by_cases z' : l = i
      · exact hjl (z.trans z'.symm)
      · simp only [z, if_pos] at hq
        simp only [if_neg z'] at hq'
        exact (hf q hq).2.2.2 l z' hq'
    · simp only [if_neg z] at hq
      by_cases z' : l = i
      · simp only [z', if_pos] at hq'
        exact (hf q hq').2.2.2 j z hq
      · simp only [if_neg z'] at hq'
        exact r.dj j l hjl q hq hq'
  · have h' := hne j k' h
    obtain ⟨a, b⟩ := r.par j k' h
    exact ⟨by rw [List.getElem?_set_ne (Ne.symm h')]; exact a, by rw [List.getElem?_set_ne (Ne.symm h')]; exact b⟩
/-- lists in lists -/
def listy : Kd → Bool
  | .sh => true
  | .ls k => listy k
  | .pm k => listy k
  | _ => false
/-- what is one's own read as data -/
theorem ow_view : ∀ {k : Kd} {v : V} {d : D} {fp : List Addr}, listy k = true → Ow K F H k v d fp → Same F H → Dp K H v d := by
  intro k
  induction k with
  | sh => intro v d fp _ h s; exact dp_mono s h.2
  | ls k ih =>
    intro v d fp hl h s
    obtain ⟨p, xs, ds, fs, rfl, rfl, hp, rfl, al⟩ := h
    refine .lst (SqL.of hp) ?_
    clear hp
    induction al with
    | nil => exact .nil
    | cons q _ ih2 => exact .cons (ih hl q s) (ih2)
  | pm k ih => intro v d fp hl h s; exact ih hl h s
  | dc => intro v d fp hl; cases hl
  | oe _ => intro v d fp hl; cases hl
  | of _ _ _ _ _ => intro v d fp hl; cases hl
  | te => intro v d fp hl; cases hl
  | tc _ _ _ _ => intro v d fp hl; cases hl
  | op _ _ => intro v d fp hl; cases hl
  | xr _ => intro v d fp hl; cases hl
end
end Z
set_option Elab.async false
set_option linter.all false
set_option maxRecDepth 100000
namespace Z
open PySem L2
/-! ### combinators -/
def bnd {α β : Type} (m : M α) (f : α → M β) : M β := fun s => match m s with
  | .ok a s' => f a s'
  | .no => .no
def opt {α : Type} (o : Option α) : M α := fun s => match o with
  | some a => .ok a s
  | none => .no
/-- a thing that is read: data, or the slot of a thing of one's own -/
inductive BR where
  | val (d : D)
  | slot (i : Nat)
def res (s : DS) : BR → Option D
  | .val d => some d
  | .slot i => match s[i]? with
    | some (some d) => some d
    | _ => none
def mV (m : M D) : M BR := bnd m fun d s => .ok (.val d) s
def mSlot (i : Nat) : M BR := fun s => match s[i]? with
  | some (some _) => .ok (.slot i) s
  | _ => .no
def mVar (i : Nat) : M D := fun s => match s[i]? with
  | some (some d) => .ok d s
  | _ => .no
def mC (d : D) : M D := fun s => .ok d s
def mOp (f : D → D → Option D) (a b : M BR) : M D := bnd a fun x => bnd b fun y => fun s => match res s x, res s y with
  | some dx, some dy => opt (f dx dy) s
  | _, _ => .no
def mUn (f : D → Option D) (a : M BR) : M D := bnd a fun x => fun s => match res s x with
  | some dx => opt (f dx) s
  | none => .no
def tru : D → Option Bool
  | .bool b => some b
  | _ => none
def mB (m : M D) : M Bool := bnd m fun d => opt (tru d)
def mAnd (a b : M Bool) : M Bool := bnd a fun x => match x with
  | true => b
  | false => fun s => .ok false s
def mOr (a b : M Bool) : M Bool := bnd a fun x => match x with
  | true => fun s => .ok true s
  | false => b
def mNot (a : M Bool) : M Bool := bnd a fun x => fun s => .ok (!x) s
def mAndV (a b : M D) : M D := bnd (mB a) fun x => match x with
  | true => b
  | false => fun s => .ok (.bool false) s
def mOrV (a b : M D) : M D := bnd (mB a) fun x => match x with
  | true => fun s => .ok (.bool true) s
  | false => b
def mNotV (a : M D) : M D := bnd (mB a) fun x => fun s => .ok (.bool (!x)) s
def mIf (t : M Bool) (a b : M D) : M D := bnd t fun x => match x with
  | true => a
  | false => b
def mChain (f g : D → D → Option D) (a b c : M D) : M D := bnd a fun x => bnd b fun y => bnd (opt (f x y)) fun z => match z with
  | .bool true => bnd c fun w => opt (g y w)
  | .bool false => fun s => .ok (.bool false) s
  | _ => fun _ => .no
def mNil : M (List D) := fun s => .ok [] s
def mCons (a : M D) (r : M (List D)) : M (List D) := bnd a fun x => bnd r fun xs => fun s => .ok (x :: xs) s
def mNilB : M (List BR) := fun s => .ok [] s
def mConsB (a : M BR) (r : M (List BR)) : M (List BR) := bnd a fun x => bnd r fun xs => fun s => .ok (x :: xs) s
def fits (n : Nat) : Bool := decide (n ≤ sizeLine)
def mTup (a : M (List D)) : M D := bnd a fun xs => opt (if fits xs.length then some (.tuple xs) else none)
def mLst (a : M (List D)) : M D := bnd a fun xs => opt (if fits xs.length then some (.list xs) else none)
def mB1 (f : List D → Option D) (a : M (List BR)) : M D := bnd a fun xs => fun s => match xs.mapM (res s) with
  | some ds => opt (f ds) s
  | none => .no
/-! ### scalars, views, growth -/
def Sc : V → D → Prop
  | .non, .none => True
  | .bl b, .bool c => b = c
  | .int i, .int j => i = j
  | .str x, .str y => x = y
  | _, _ => False
theorem Sc.dp {K : Fg} {F : Hp} : ∀ {v : V} {d : D}, Sc v d → Dp K F v d := by
  intro v d h
  cases v <;> cases d <;> first | exact h.elim | skip
  · exact .non
  · cases h; exact .bl _
  · cases h; exact .int _
  · cases h; exact .str _
def Vw (K : Fg) (F H : Hp) (v : V) (d : D) : Prop := Dp K F v d ∨ ∃ p xs ds, v = .ref p ∧ d = .list ds ∧ H p = some (.lst xs) ∧ DpAll K F xs ds
theorem Vw.dp {K : Fg} {F H : Hp} {v : V} {d : D} (h : Vw K F H v d) (s : Same F H) : Dp K H v d := by
  rcases h with h | ⟨p, xs, ds, rfl, rfl, hp, al⟩
  · exact dp_mono s h
  · exact .lst (SqL.of hp) (dpa_mono s al)
theorem Vw.lst {K : Fg} {F H : Hp} {v : V} {ds : List D} (h : Vw K F H v (.list ds)) (s : Same F H) : ∃ p xs, v = .ref p ∧ SqL K H p xs ∧ DpAll K F xs ds := by
  rcases h with h | ⟨p, xs, ds', rfl, e, hp, al⟩
  · cases h with
    | lst h r => exact ⟨_, _, rfl, sqL_mono s h, r⟩
  · cases e; exact ⟨p, xs, rfl, SqL.of hp, al⟩
theorem Vw.tup {K : Fg} {F H : Hp} {v : V} {ds : List D} (h : Vw K F H v (.tuple ds)) (s : Same F H) : ∃ p xs, v = .ref p ∧ SqT K H p xs ∧ DpAll K F xs ds := by
  rcases h with h | ⟨p, xs, ds', rfl, e, hp, al⟩
  · cases h with
    | tup h r => exact ⟨_, _, rfl, sqT_mono s h, r⟩
  · cases e
theorem Vw.int {K : Fg} {F H : Hp} {v : V} {i : Int} (h : Vw K F H v (.int i)) : v = .int i := by
  rcases h with h | ⟨p, xs, ds', rfl, e, hp, al⟩
  · cases h; rfl
  · cases e
theorem Vw.bl {K : Fg} {F H : Hp} {v : V} {i : Bool} (h : Vw K F H v (.bool i)) : v = .bl i := by
  rcases h with h | ⟨p, xs, ds', rfl, e, hp, al⟩
  · cases h; rfl
  · cases e
theorem Vw.str {K : Fg} {F H : Hp} {v : V} {i : Str} (h : Vw K F H v (.str i)) : v = .str i := by
  rcases h with h | ⟨p, xs, ds', rfl, e, hp, al⟩
  · cases h; rfl
  · cases e
theorem Vw.non {K : Fg} {F H : Hp} {v : V} (h : Vw K F H v .none) : v = .non := by
  rcases h with h | ⟨p, xs, ds', rfl, e, hp, al⟩
  · cases h; rfl
  · cases e
theorem dpa_len {K : Fg} {F : Hp} : ∀ {vs : List V} {ds : List D}, DpAll K F vs ds → vs.length = ds.length
  | _, _, .nil => rfl
  | _, _, .cons _ r => by simp only [List.length_cons, dpa_len r]
theorem dpa_get {K : Fg} {F : Hp} : ∀ {vs : List V} {ds : List D} {i : Nat} {d : D}, DpAll K F vs ds → ds[i]? = some d → ∃ v, vs[i]? = some v ∧ Dp K F v d
  | _, _, _, _, .nil, e => by simp at e
  | _, _, 0, _, .cons h _, e => by simp at e; subst e; exact ⟨_, rfl, h⟩
  | _, _, i + 1, d, .cons _ t, e => by
    obtain ⟨u, h1, h2⟩ := dpa_get (i := i) (d := d) t (by simpa using e)
    exact ⟨u, by simpa using h1, h2⟩
theorem dpa_append {K : Fg} {F : Hp} : ∀ {vs ws : List V} {ds es : List D}, DpAll K F vs ds → DpAll K F ws es → DpAll K F (vs ++ ws) (ds ++ es)
  | _, _, _, _, .nil, s => s
  | _, _, _, _, .cons r t, s => .cons r (dpa_append t s)
theorem dpa_take {K : Fg} {F : Hp} : ∀ {vs : List V} {ds : List D} (n : Nat), DpAll K F vs ds → DpAll K F (vs.take n) (ds.take n)
  | _, _, 0, _ => .nil
  | _, _, _ + 1, .nil => .nil
  | _, _, n + 1, .cons r t => .cons r (dpa_take n t)
theorem dpa_drop {K : Fg} {F : Hp} : ∀ {vs : List V} {ds : List D} (n : Nat), DpAll K F vs ds → DpAll K F (vs.drop n) (ds.drop n)
  | _, _, 0, r => r
  | _, _, _ + 1, .nil => .nil
  | _, _, n + 1, .cons _ t => dpa_drop n t
theorem dpa_set {K : Fg} {F : Hp} {v : V} {d : D} (h : Dp K F v d) : ∀ {vs : List V} {ds : List D} (n : Nat), DpAll K F vs ds → DpAll K F (vs.set n v) (ds.set n d)
  | _, _, _, .nil => .nil
  | _, _, 0, .cons _ t => .cons h t
  | _, _, n + 1, .cons r t => .cons r (dpa_set h n t)
/-- the heap is as it was, or has one new thing, to be read -/
inductive Grow (F H : Hp) : Hp → Hp → Prop
  | refl : Grow F H F H
  | new {p : Addr} (o : HO) : H p = none → Grow F H (upd F p o) (upd H p o)
section
variable {K : Fg} {c : Ctx} {O : List Kd} {F F' H H' : Hp} {σ : St} {fps : Nat → List Addr} {ds : DS}
theorem Grow.rel (g : Grow F H F' H') (r : Rel K c O F H σ fps ds) : Rel K c O F' H' σ fps ds ∧ Same F F' := by
  cases g with
  | refl => exact ⟨r, Same.refl _⟩
  | new o h => exact ⟨r.alloc h o, same_upd (r.fresh h).1⟩
def lsish : Kd → Bool
  | .ls .sh => true
  | .pm (.ls .sh) => true
  | _ => false
def Bm (K : Fg) (O : List Kd) (F : Hp) (σ : St) (v : V) : BR → Prop
  | .val d => Dp K F v d
  | .slot i => σ[i]? = some (some v) ∧ lsish (O.getD i .sh) = true
theorem all3_sh {xs : List V} {ds : List D} {fs : List (List Addr)} (h : All3 (Ow K F H .sh) xs ds fs) : DpAll K F xs ds ∧ fs.flatten = [] := by
  induction h with
  | nil => exact ⟨.nil, rfl⟩
  | cons h _ ih =>
    obtain ⟨e, h⟩ := h
    subst e
    exact ⟨.cons h ih.1, by simpa using ih.2⟩
theorem ow_ls {v : V} {d : D} {fp : List Addr} {k : Kd} (hk : lsish k = true) (h : Ow K F H k v d fp) : ∃ p xs ds, v = .ref p ∧ d = .list ds ∧ H p = some (.lst xs) ∧ fp = [p] ∧ DpAll K F xs ds := by
  have : Ow K F H (.ls .sh) v d fp := by
    unfold lsish at hk
    split at hk
    · exact h
    · exact h
    · cases hk
  obtain ⟨p, xs, ds, fs, rfl, rfl, hp, rfl, al⟩ := this
  obtain ⟨a, b⟩ := all3_sh al
  exact ⟨p, xs, ds, rfl, rfl, hp, by rw [b], a⟩
theorem ls_ow {p : Addr} {xs : List V} {ds : List D} (hp : H p = some (.lst xs)) (al : DpAll K F xs ds) : Ow K F H (.ls .sh) (.ref p) (.list ds) [p] := by
  have : ∃ fs : List (List Addr), fs.flatten = [] ∧ All3 (Ow K F H .sh) xs ds fs := by
    clear hp
    induction al using DpAll.rec (motive_1 := fun _ _ _ => True) with
    | nil => exact ⟨[], rfl, .nil⟩
    | cons h _ _ ih =>
      obtain ⟨fs, e, a⟩ := ih
      exact ⟨[] :: fs, by simpa using e, .cons ⟨rfl, h⟩ a⟩
    | _ => trivial
  obtain ⟨fs, e, a⟩ := this
  exact ⟨p, xs, ds, fs, rfl, rfl, hp, by rw [e], a⟩
theorem Bm.vw {br : BR} {v : V} {d : D} (r : Rel K c O F H σ fps ds) (b : Bm K O F σ v br) (e : res ds br = some d) : Vw K F H v d := by
  cases br with
  | val d' => cases e; exact .inl b
  | slot i =>
    unfold res at e
    simp only at e
    split at e
    · rename_i d' he
      cases e
      obtain ⟨u, hu, ow⟩ := r.slots i _ he
      rw [b.1] at hu
      cases hu
      obtain ⟨p, xs, ds', e1, e2, hp, _, al⟩ := ow_ls b.2 ow
      exact .inr ⟨p, xs, ds', e1, e2, hp, al⟩
    · cases e
theorem Bm.mono {br : BR} {v : V} (s : Same F F') (b : Bm K O F σ v br) : Bm K O F' σ v br := by
  cases br with
  | val d => exact dp_mono s b
  | slot i => exact b
end
structure DB (K : Fg) (c : Ctx) (O : List Kd) (t : TE) (m : M BR) : Prop where
  run : ∀ {F H : Hp} {σ : St} {fps : Nat → List Addr} {ds ds' : DS} {b : BR}, Rel K c O F H σ fps ds → m ds = .ok b ds' → ∀ Q : VK,
    (∀ F' H' fps' v, Same F F' → Rel K c O F' H' σ fps' ds' → Bm K O F' σ v b → Q v H') → t σ H Q
inductive BmA (K : Fg) (O : List Kd) (F : Hp) (σ : St) : List V → List BR → Prop
  | nil : BmA K O F σ [] []
  | cons {v b vs bs} : Bm K O F σ v b → BmA K O F σ vs bs → BmA K O F σ (v :: vs) (b :: bs)
structure DAB (K : Fg) (c : Ctx) (O : List Kd) (t : TA) (m : M (List BR)) : Prop where
  run : ∀ {F H : Hp} {σ : St} {fps : Nat → List Addr} {ds ds' : DS} {es : List BR}, Rel K c O F H σ fps ds → m ds = .ok es ds' → ∀ Q : List V → Hp → Prop,
    (∀ F' H' fps' vs, Same F F' → Rel K c O F' H' σ fps' ds' → BmA K O F' σ vs es → Q vs H') → t σ H Q
/-- an operation by values and its meaning on data -/
def OpG (K : Fg) (r : R2) (f : D → D → Option D) : Prop := ∀ (F H : Hp) (x y : V) (dx dy d : D), Same F H → Vw K F H x dx → Vw K F H y dy → f dx dy = some d → ∀ Q : VK, (∀ F' H' v, Grow F H F' H' → Dp K F' v d → Q v H') → r x y H Q
def UnG (K : Fg) (r : V → Hp → VK → Prop) (f : D → Option D) : Prop := ∀ (F H : Hp) (x : V) (dx d : D), Same F H → Vw K F H x dx → f dx = some d → ∀ Q : VK, (∀ F' H' v, Grow F H F' H' → Dp K F' v d → Q v H') → r x H Q
inductive VwA (K : Fg) (F H : Hp) : List V → List D → Prop
  | nil : VwA K F H [] []
  | cons {v d vs ds} : Vw K F H v d → VwA K F H vs ds → VwA K F H (v :: vs) (d :: ds)
def CaG (K : Fg) (r : List V → Hp → VK → Prop) (f : List D → Option D) : Prop := ∀ (F H : Hp) (xs : List V) (es : List D) (d : D), Same F H → VwA K F H xs es → f es = some d → ∀ Q : VK, (∀ F' H' v, Grow F H F' H' → Dp K F' v d → Q v H') → r xs H Q
theorem bnd_ok {α β : Type} {m : M α} {f : α → M β} {s s' : DS} {b : β} (h : bnd m f s = .ok b s') : ∃ a s1, m s = .ok a s1 ∧ f a s1 = .ok b s' := by
  unfold bnd at h
  cases e : m s with
  | ok a s1 => rw [e] at h; exact ⟨a, s1, rfl, h⟩
  | no => rw [e] at h; cases h
theorem opt_ok {α : Type} {o : Option α} {s s' : DS} {a : α} (h : opt o s = .ok a s') : o = some a ∧ s' = s := by
  unfold opt at h
  cases o with
  | none => cases h
  | some b => cases h; exact ⟨rfl, rfl⟩
section
variable {K : Fg} {c : Ctx} {O : List Kd} {ta tb tc te : TE} {tt tu : TT} {ma mb mc : M D} {m1 m2 : M Bool} {b1 b2 : M BR}
theorem DE.b (h : DE K c O ta ma) : DB K c O ta (mV ma) := ⟨fun {F H σ fps ds ds' b} r e Q q => by
  obtain ⟨d, s1, e1, e2⟩ := bnd_ok e
  cases e2
  exact h.run r e1 Q fun F' H' fps' v s r' dp => q F' H' fps' v s r' dp⟩
theorem d_var (i : Nat) (hk : O.getD i .sh = .sh := by rfl) : DE K c O (tVar i) (mVar i) := ⟨fun {F H σ fps ds ds' d} r e Q q => by
  unfold mVar at e
  split at e
  · rename_i d' he
    cases e
    obtain ⟨v, hv, ow⟩ := r.slots i _ he
    rw [hk] at ow
    exact ⟨v, hv, q F H fps v (Same.refl _) r ow.2⟩
  · cases e⟩
theorem d_slot (i : Nat) (hk : lsish (O.getD i .sh) = true := by rfl) : DB K c O (tVar i) (mSlot i) := ⟨fun {F H σ fps ds ds' b} r e Q q => by
  unfold mSlot at e
  split at e
  · rename_i d' he
    cases e
    obtain ⟨v, hv, ow⟩ := r.slots i _ he
    exact ⟨v, hv, q F H fps v (Same.refl _) r ⟨hv, hk⟩⟩
  · cases e⟩
theorem d_C {v : V} {d : D} (h : Sc v d) : DE K c O (tC v) (mC d) := ⟨fun r e Q q => by
  cases e
  exact q _ _ _ v (Same.refl _) r h.dp⟩
theorem d_int {i : Int} : DE K c O (tC (.int i)) (mC (.int i)) := d_C rfl
theorem d_bl {i : Bool} : DE K c O (tC (.bl i)) (mC (.bool i)) := d_C rfl
theorem d_str {i : Str} : DE K c O (tC (.str i)) (mC (.str i)) := d_C rfl
theorem d_non : DE K c O (tC .non) (mC .none) := d_C trivial
theorem d_op {r : R2} {f : D → D → Option D} (ho : OpG K r f) (ha : DB K c O ta b1) (hb : DB K c O tb b2) : DE K c O (tOp r ta tb) (mOp f b1 b2) := ⟨fun {F H σ fps ds ds' d} rl e Q q => by
  obtain ⟨x, s1, e1, g1⟩ := bnd_ok e
  obtain ⟨y, s2, e2, g2⟩ := bnd_ok g1
  refine ha.run rl e1 _ fun F1 H1 fps1 v sF r1 bv => ?_
  refine hb.run r1 e2 _ fun F2 H2 fps2 u sF2 r2 bu => ?_
  split at g2
  · rename_i dx dy hx hy
    obtain ⟨g3, z⟩ := opt_ok g2
    subst z
    refine ho F2 H2 v u dx dy d r2.sub (Bm.vw r2 (bv.mono sF2) hx) (Bm.vw r2 bu hy) g3 Q fun F3 H3 w g dp => ?_
    obtain ⟨r3, s3⟩ := g.rel r2
    exact q F3 H3 fps2 w ((sF.trans sF2).trans s3) r3 dp
  · cases g2⟩
theorem d_un {r : V → Hp → VK → Prop} {f : D → Option D} (ho : UnG K r f) (ha : DB K c O ta b1) : DE K c O (tUn r ta) (mUn f b1) := ⟨fun {F H σ fps ds ds' d} rl e Q q => by
  obtain ⟨x, s1, e1, g2⟩ := bnd_ok e
  refine ha.run rl e1 _ fun F1 H1 fps1 v sF r1 bv => ?_
  split at g2
  · rename_i dx hx
    obtain ⟨g3, z⟩ := opt_ok g2
    subst z
    refine ho F1 H1 v dx d r1.sub (Bm.vw r1 bv hx) g3 Q fun F3 H3 w g dp => ?_
    obtain ⟨r3, s3⟩ := g.rel r1
    exact q F3 H3 fps1 w (sF.trans s3) r3 dp
  · cases g2⟩
theorem d_test {m : M D} (h : DE K c O te m) : DT K c O (tTest te) (mB m) := ⟨fun {F H σ fps ds ds' b} r e Q q => by
  obtain ⟨d, s1, e1, e⟩ := bnd_ok e
  obtain ⟨e, z⟩ := opt_ok e
  subst z
  refine h.run r e1 _ fun F1 H1 fps1 v s r1 dp => ?_
  unfold tru at e
  split at e
  · cases e; cases dp; exact ⟨_, rfl, q F1 H1 fps1 s r1⟩
  · cases e⟩
theorem d_tB {m : M D} (h : DE K c O te m) : DT K c O (tB te) (mB m) := d_test h
theorem d_and (h1 : DT K c O tt m1) (h2 : DT K c O tu m2) : DT K c O (tAnd tt tu) (mAnd m1 m2) := ⟨fun {F H σ fps ds ds' b} r e Q q => by
  obtain ⟨d, s1, e1, e⟩ := bnd_ok e
  refine h1.run r e1 _ fun F1 H1 fps1 s r1 => ?_
  cases d with
  | true => exact iteT (h2.run r1 e _ fun F2 H2 fps2 s' r2 => q F2 H2 fps2 (s.trans s') r2)
  | false => cases e; exact iteF (q F1 H1 fps1 s r1)⟩
theorem d_or (h1 : DT K c O tt m1) (h2 : DT K c O tu m2) : DT K c O (tOr tt tu) (mOr m1 m2) := ⟨fun {F H σ fps ds ds' b} r e Q q => by
  obtain ⟨d, s1, e1, e⟩ := bnd_ok e
  refine h1.run r e1 _ fun F1 H1 fps1 s r1 => ?_
  cases d with
  | false => exact iteF (h2.run r1 e _ fun F2 H2 fps2 s' r2 => q F2 H2 fps2 (s.trans s') r2)
  | true => cases e; exact iteT (q F1 H1 fps1 s r1)⟩
theorem d_not (h1 : DT K c O tt m1) : DT K c O (tNot tt) (mNot m1) := ⟨fun {F H σ fps ds ds' b} r e Q q => by
  obtain ⟨d, s1, e1, e⟩ := bnd_ok e
  refine h1.run r e1 _ fun F1 H1 fps1 s r1 => ?_
  cases e
  exact q F1 H1 fps1 s r1⟩
theorem d_andV (h1 : DE K c O ta ma) (h2 : DE K c O tb mb) : DE K c O (tAndV ta tb) (mAndV ma mb) := ⟨fun {F H σ fps ds ds' b} r e Q q => by
  obtain ⟨d, s1, e1, e⟩ := bnd_ok e
  refine (d_test h1).run r e1 _ fun F1 H1 fps1 s r1 => ?_
  cases d with
  | true => exact iteT (h2.run r1 e _ fun F2 H2 fps2 v s' r2 => q F2 H2 fps2 v (s.trans s') r2)
  | false => cases e; exact iteF (q F1 H1 fps1 _ s r1 (.bl _))⟩
theorem d_orV (h1 : DE K c O ta ma) (h2 : DE K c O tb mb) : DE K c O (tOrV ta tb) (mOrV ma mb) := ⟨fun {F H σ fps ds ds' b} r e Q q => by
  obtain ⟨d, s1, e1, e⟩ := bnd_ok e
  refine (d_test h1).run r e1 _ fun F1 H1 fps1 s r1 => ?_
  cases d with
  | false => exact iteF (h2.run r1 e _ fun F2 H2 fps2 v s' r2 => q F2 H2 fps2 v (s.trans s') r2)
  | true => cases e; exact iteT (q F1 H1 fps1 _ s r1 (.bl _))⟩
theorem d_notV (h1 : DE K c O ta ma) : DE K c O (tNotV ta) (mNotV ma) := ⟨fun {F H σ fps ds ds' b} r e Q q => by
  obtain ⟨d, s1, e1, e⟩ := bnd_ok e
  refine (d_test h1).run r e1 _ fun F1 H1 fps1 s r1 => ?_
  cases e
  exact q F1 H1 fps1 _ s r1 (.bl _)⟩
theorem d_ifE (h0 : DT K c O tt m1) (h1 : DE K c O ta ma) (h2 : DE K c O tb mb) : DE K c O (tIf tt ta tb) (mIf m1 ma mb) := ⟨fun {F H σ fps ds ds' b} r e Q q => by
  obtain ⟨d, s1, e1, e⟩ := bnd_ok e
  refine h0.run r e1 _ fun F1 H1 fps1 s r1 => ?_
  cases d with
  | true => exact iteT (h1.run r1 e _ fun F2 H2 fps2 v s' r2 => q F2 H2 fps2 v (s.trans s') r2)
  | false => exact iteF (h2.run r1 e _ fun F2 H2 fps2 v s' r2 => q F2 H2 fps2 v (s.trans s') r2)⟩
theorem d_chain {r r' : R2} {f f' : D → D → Option D} (ho : OpG K r f) (ho' : OpG K r' f') (ha : DE K c O ta ma) (hb : DE K c O tb mb) (hc : DE K c O tc mc) : DE K c O (tChain r r' ta tb tc) (mChain f f' ma mb mc) := ⟨fun {F H σ fps ds ds' d} rl e Q q => by
  obtain ⟨x, s1, e1, g1⟩ := bnd_ok e
  obtain ⟨y, s2, e2, g2⟩ := bnd_ok g1
  obtain ⟨z, s3, e3, g3⟩ := bnd_ok g2
  obtain ⟨e4, hz⟩ := opt_ok e3
  subst hz
  refine ha.run rl e1 _ fun F1 H1 fps1 v sF r1 bv => ?_
  refine hb.run r1 e2 _ fun F2 H2 fps2 u sF2 r2 bu => ?_
  refine ho F2 H2 v u x y z r2.sub (.inl (dp_mono sF2 bv)) (.inl bu) e4 _ fun F3 H3 w g dp => ?_
  obtain ⟨r3, sF3⟩ := g.rel r2
  split at g3
  · cases dp
    refine ⟨_, rfl, iteT ?_⟩
    obtain ⟨w', s4, e5, g4⟩ := bnd_ok g3
    obtain ⟨g5, hz⟩ := opt_ok g4
    subst hz
    refine hc.run r3 e5 _ fun F4 H4 fps4 v4 s4 r4 bv4 => ?_
    refine ho' F4 H4 u v4 y w' d r4.sub (.inl (dp_mono (sF3.trans s4) bu)) (.inl bv4) g5 Q fun F5 H5 w5 g6 dp5 => ?_
    obtain ⟨r5, sF5⟩ := g6.rel r4
    exact q F5 H5 fps4 w5 ((((sF.trans sF2).trans sF3).trans s4).trans sF5) r5 dp5
  · cases dp
    cases g3
    exact ⟨_, rfl, iteF (q F3 H3 fps2 _ ((sF.trans sF2).trans sF3) r3 (.bl _))⟩
  · cases g3⟩
end
end Z
set_option Elab.async false
set_option linter.all false
set_option maxRecDepth 100000
namespace Z
open PySem L2
section
variable {K : Fg} {c : Ctx} {O : List Kd} {ta tb tc te : TE} {tt tu : TT} {ma mb mc : M D} {m1 m2 : M Bool} {b1 b2 : M BR} {tl : TA} {ml : M (List D)} {bl : M (List BR)}
/-! ### arguments, displays, built-ins -/
theorem da_nil : DA K c O tNil mNil := ⟨fun r e Q q => by cases e; exact q _ _ _ [] (Same.refl _) r .nil⟩
theorem da_cons (ha : DE K c O ta ma) (hl : DA K c O tl ml) : DA K c O (tCons ta tl) (mCons ma ml) := ⟨fun {F H σ fps ds ds' es} rl e Q q => by
  obtain ⟨x, s1, e1, g1⟩ := bnd_ok e
  obtain ⟨y, s2, e2, g2⟩ := bnd_ok g1
  cases g2
  refine ha.run rl e1 _ fun F1 H1 fps1 v sF r1 bv => ?_
  refine hl.run r1 e2 _ fun F2 H2 fps2 vs sF2 r2 bu => ?_
  exact q F2 H2 fps2 (v :: vs) (sF.trans sF2) r2 (.cons (dp_mono sF2 bv) bu)⟩
theorem BmA.mono {F F' : Hp} {σ : St} : ∀ {vs : List V} {bs : List BR}, Same F F' → BmA K O F σ vs bs → BmA K O F' σ vs bs
  | _, _, _, .nil => .nil
  | _, _, s, .cons h t => .cons (h.mono s) (t.mono s)
theorem dab_nil : DAB K c O tNil mNilB := ⟨fun r e Q q => by cases e; exact q _ _ _ [] (Same.refl _) r .nil⟩
theorem dab_cons (ha : DB K c O ta b1) (hl : DAB K c O tl bl) : DAB K c O (tCons ta tl) (mConsB b1 bl) := ⟨fun {F H σ fps ds ds' es} rl e Q q => by
  obtain ⟨x, s1, e1, g1⟩ := bnd_ok e
  obtain ⟨y, s2, e2, g2⟩ := bnd_ok g1
  cases g2
  refine ha.run rl e1 _ fun F1 H1 fps1 v sF r1 bv => ?_
  refine hl.run r1 e2 _ fun F2 H2 fps2 vs sF2 r2 bu => ?_
  exact q F2 H2 fps2 (v :: vs) (sF.trans sF2) r2 (.cons (bv.mono sF2) bu)⟩
theorem fits_of {n : Nat} (h : fits n = true) : n ≤ sizeLine := of_decide_eq_true h
theorem d_tup (h : DA K c O tl ml) : DE K c O (tTup tl) (mTup ml) := ⟨fun {F H σ fps ds ds' d} rl e Q q => by
  obtain ⟨xs, s1, e1, g1⟩ := bnd_ok e
  obtain ⟨g2, z⟩ := opt_ok g1
  subst z
  split at g2
  · rename_i hf
    cases g2
    refine h.run rl e1 _ fun F1 H1 fps1 vs sF r1 bv => ?_
    refine ⟨by rw [dpa_len bv]; exact fits_of hf, fun p hp => ?_⟩
    have s2 : Same F1 (upd F1 p (.tup vs)) := same_upd (r1.fresh hp).1
    exact q _ _ fps1 (.ref p) (sF.trans s2) (r1.alloc hp _) (.tup (SqT.of upd_same) (dpa_mono s2 bv))
  · cases g2⟩
theorem d_lst (h : DA K c O tl ml) : DE K c O (tLst tl) (mLst ml) := ⟨fun {F H σ fps ds ds' d} rl e Q q => by
  obtain ⟨xs, s1, e1, g1⟩ := bnd_ok e
  obtain ⟨g2, z⟩ := opt_ok g1
  subst z
  split at g2
  · rename_i hf
    cases g2
    refine h.run rl e1 _ fun F1 H1 fps1 vs sF r1 bv => ?_
    refine ⟨by rw [dpa_len bv]; exact fits_of hf, fun p hp => ?_⟩
    have s2 : Same F1 (upd F1 p (.lst vs)) := same_upd (r1.fresh hp).1
    exact q _ _ fps1 (.ref p) (sF.trans s2) (r1.alloc hp _) (.lst (SqL.of upd_same) (dpa_mono s2 bv))
  · cases g2⟩
theorem o_lst (h : DA K c O tl ml) : DO K c O (.ls .sh) (tLst tl) (mLst ml) := ⟨fun {F H σ fps ds ds' d} rl e Q q => by
  obtain ⟨xs, s1, e1, g1⟩ := bnd_ok e
  obtain ⟨g2, z⟩ := opt_ok g1
  subst z
  split at g2
  · rename_i hf
    cases g2
    refine h.run rl e1 _ fun F1 H1 fps1 vs sF r1 bv => ?_
    refine ⟨by rw [dpa_len bv]; exact fits_of hf, fun p hp => ?_⟩
    obtain ⟨hF, h0, hq⟩ := r1.fresh hp
    refine q F1 _ fps1 (.ref p) [p] sF (r1.allocO hp _) (ls_ow upd_same bv) (fun q' hq' => ?_) (by simp)
    have : q' = p := by simpa using hq'
    subst this
    exact ⟨hF, by rw [upd_same]; simp, h0, hq⟩
  · cases g2⟩
theorem resA {F H : Hp} {σ : St} {fps : Nat → List Addr} {ds : DS} (r : Rel K c O F H σ fps ds) : ∀ {vs : List V} {bs : List BR} {es : List D}, BmA K O F σ vs bs → bs.mapM (res ds) = some es → VwA K F H vs es
  | _, _, es, .nil, e => by cases e; exact .nil
  | _, _, es, .cons (b := b) (bs := bs) h t, e => by
    rw [List.mapM_cons] at e
    cases e1 : res ds b with
    | none => rw [e1] at e; cases e
    | some d =>
      cases e2 : bs.mapM (res ds) with
      | none => rw [e1, e2] at e; cases e
      | some ds' =>
        rw [e1, e2] at e
        cases e
        exact .cons (Bm.vw r h e1) (resA r t e2)
theorem d_cb {r : List V → Hp → VK → Prop} {f : List D → Option D} (hc : CaG K r f) (h : DAB K c O tl bl) : DE K c O (tCB r tl) (mB1 f bl) := ⟨fun {F H σ fps ds ds' d} rl e Q q => by
  obtain ⟨xs, s1, e1, g1⟩ := bnd_ok e
  split at g1
  · rename_i es he
    obtain ⟨g2, z⟩ := opt_ok g1
    subst z
    refine h.run rl e1 _ fun F1 H1 fps1 vs sF r1 bv => ?_
    refine hc F1 H1 vs es d r1.sub (resA r1 bv he) g2 Q fun F2 H2 v g dp => ?_
    obtain ⟨r2, s2⟩ := g.rel r1
    exact q F2 H2 fps1 v (sF.trans s2) r2 dp
  · cases g1⟩
end
/-! ### operations on data -/
def i2 (g : Int → Int → Option D) : D → D → Option D
  | .int i, .int j => g i j
  | _, _ => none
section
variable {K : Fg}
theorem g_int {r : R2} {g : Int → Int → Option D} (h : ∀ (i j : Int) (d : D) (H : Hp) (Q : VK), g i j = some d → (∀ v, Sc v d → Q v H) → r (.int i) (.int j) H Q) : OpG K r (i2 g) := fun F H x y dx dy d sF vx vy e Q q => by
  unfold i2 at e
  split at e
  · rw [vx.int, vy.int]
    exact h _ _ d H Q e fun v sc => q F H v .refl sc.dp
  · cases e
theorem g_I0 {g : Int → Int → V} {g' : Int → Int → D} (h : ∀ i j, Sc (g i j) (g' i j)) : OpG K (rI0 g) (i2 fun i j => some (g' i j)) := g_int fun i j d H Q e q => by
  cases e
  exact ⟨i, j, rfl, rfl, q _ (h i j)⟩
theorem g_I {C : Int → Int → Prop} {C' : Int → Int → Bool} {g : Int → Int → V} {g' : Int → Int → D} (hC : ∀ i j, C' i j = true → C i j) (h : ∀ i j, Sc (g i j) (g' i j)) : OpG K (rI C g) (i2 fun i j => if C' i j then some (g' i j) else none) := g_int fun i j d H Q e q => by
  split at e
  · rename_i hc
    cases e
    exact ⟨i, j, rfl, rfl, hC i j hc, q _ (h i j)⟩
  · cases e
def addI := i2 fun i j => some (.int (i + j))
def subI := i2 fun i j => some (.int (i - j))
/-- how great numbers may be for a product -/
@[irreducible] def mulC (i j : Int) : Bool := decide ((Builtin.Int.intBits i : Int) + (Builtin.Int.intBits j : Int) ≤ 134217728)
def mulI := i2 fun i j => if mulC i j then some (.int (i * j)) else none
@[irreducible] def divC (_i j : Int) : Bool := decide (0 < j ∧ j.natAbs.log2 < 9000)
def divI := i2 fun i j => if divC i j then some (.int (i / j)) else none
def modC (_i j : Int) : Bool := decide (0 < j)
def modI := i2 fun i j => if modC i j then some (.int (i % j)) else none
def powC (i j : Int) : Bool := decide (0 ≤ j ∧ j ≤ 1000000 ∧ i.natAbs < 18446744073709551616)
def powI := i2 fun i j => if powC i j then some (.int (i ^ j.toNat)) else none
@[irreducible] def shlC (i j : Int) : Bool := decide (0 ≤ j ∧ (Builtin.Int.intBits i : Int) + j ≤ 134217728)
def shlI := i2 fun i j => if shlC i j then some (.int (i * 2 ^ j.toNat)) else none
def shrC (_i j : Int) : Bool := decide (0 ≤ j)
def shrI := i2 fun i j => if shrC i j then some (.int (i / 2 ^ j.toNat)) else none
def andI := i2 fun i j => some (.int (Builtin.bitAnd i j))
def orI := i2 fun i j => some (.int (Builtin.bitOr i j))
def xorI := i2 fun i j => some (.int (Builtin.bitXor i j))
def ltI := i2 fun i j => some (.bool (decide (i < j)))
def leI := i2 fun i j => some (.bool (decide (i ≤ j)))
def gtI := i2 fun i j => some (.bool (decide (j < i)))
def geI := i2 fun i j => some (.bool (decide (j ≤ i)))
theorem g_sub : OpG K (rI0 fun i j => .int (i - j)) subI := g_I0 fun _ _ => rfl
theorem g_mul : OpG K (rI CMulX fun i j => .int (i * j)) mulI := g_I (fun i j h => (of_decide_eq_true (by unfold mulC at h; exact h) : (Builtin.Int.intBits i : Int) + (Builtin.Int.intBits j : Int) ≤ 134217728)) fun _ _ => rfl
theorem g_div : OpG K (rI CDivW fun i j => .int (i / j)) divI := g_I (fun i j h => (of_decide_eq_true (by unfold divC at h; exact h) : 0 < j ∧ j.natAbs.log2 < 9000)) fun _ _ => rfl
theorem g_mod : OpG K (rI (fun _ j => 0 < j) fun i j => .int (i % j)) modI := g_I (fun _ _ h => of_decide_eq_true h) fun _ _ => rfl
theorem g_pow : OpG K (rI CPow fun i j => .int (i ^ j.toNat)) powI := g_I (fun i j h => (of_decide_eq_true h : 0 ≤ j ∧ j ≤ 1000000 ∧ i.natAbs < 18446744073709551616)) fun _ _ => rfl
theorem g_shl : OpG K (rI CShl fun i j => .int (i * 2 ^ j.toNat)) shlI := g_I (fun i j h => (of_decide_eq_true (by unfold shlC at h; exact h) : 0 ≤ j ∧ (Builtin.Int.intBits i : Int) + j ≤ 134217728)) fun _ _ => rfl
theorem g_shr : OpG K (rI (fun _ j => 0 ≤ j) fun i j => .int (i / 2 ^ j.toNat)) shrI := g_I (fun _ _ h => of_decide_eq_true h) fun _ _ => rfl
theorem g_and : OpG K (rI0 fun i j => .int (Builtin.bitAnd i j)) andI := g_I0 fun _ _ => rfl
theorem g_or : OpG K (rI0 fun i j => .int (Builtin.bitOr i j)) orI := g_I0 fun _ _ => rfl
theorem g_xor : OpG K (rI0 fun i j => .int (Builtin.bitXor i j)) xorI := g_I0 fun _ _ => rfl
theorem g_lt : OpG K (rI0 fun i j => .bl (decide (i < j))) ltI := g_I0 fun _ _ => rfl
theorem g_le : OpG K (rI0 fun i j => .bl (decide (i ≤ j))) leI := g_I0 fun _ _ => rfl
theorem g_gt : OpG K (rI0 fun i j => .bl (decide (j < i))) gtI := g_I0 fun _ _ => rfl
theorem g_ge : OpG K (rI0 fun i j => .bl (decide (j ≤ i))) geI := g_I0 fun _ _ => rfl
/-- == -/
def eqB : D → D → Option Bool
  | .int i, .int j => some (decide (i = j))
  | d, e => if SeqAt.shaped d && SeqAt.shaped e then some (PyData.eqv d e) else none
def eqD (x y : D) : Option D := (eqB x y).map .bool
def neD (x y : D) : Option D := (eqB x y).map fun b => .bool (!b)
theorem shaped_int (i : Int) : SeqAt.shaped (.int i) = true := by simp [SeqAt.shaped, PyData.canLay0, PyData.depth]
theorem eqB_all {d e : D} {b : Bool} (h : eqB d e = some b) : SeqAt.shaped d = true ∧ SeqAt.shaped e = true ∧ b = PyData.eqv d e := by
  unfold eqB at h
  split at h
  · cases h
    exact ⟨shaped_int _, shaped_int _, by rw [PyData.eqv]; exact (Bool.beq_eq_decide_eq _ _).symm⟩
  · split at h
    · rename_i hs
      rw [Bool.and_eq_true] at hs
      cases h
      exact ⟨hs.1, hs.2, rfl⟩
    · cases h
theorem g_eq : OpG K (rEqD K) eqD := fun F H x y dx dy d sF vx vy e Q q => by
  unfold eqD at e
  cases h : eqB dx dy with
  | none => rw [h] at e; cases e
  | some b =>
    rw [h] at e
    cases e
    obtain ⟨h1, h2, h3⟩ := eqB_all h
    subst h3
    exact ⟨dx, dy, vx.dp sF, vy.dp sF, h1, h2, q F H _ .refl (.bl _)⟩
theorem g_ne : OpG K (rNeD K) neD := fun F H x y dx dy d sF vx vy e Q q => by
  unfold neD at e
  cases h : eqB dx dy with
  | none => rw [h] at e; cases e
  | some b =>
    rw [h] at e
    cases e
    obtain ⟨h1, h2, h3⟩ := eqB_all h
    subst h3
    exact ⟨dx, dy, vx.dp sF, vy.dp sF, h1, h2, q F H _ .refl (.bl _)⟩
/-- xs[i] -/
theorem atI_map {F : Hp} {vs : List V} {ds : List D} {i : Int} {d : D} (h : DpAll K F vs ds) (e : atI ds i = some d) : ∃ v, atI vs i = some v ∧ Dp K F v d := by
  unfold atI at e ⊢
  rw [dpa_len h]
  cases z : ixN ds.length i with
  | none => rw [z] at e; cases e
  | some j => rw [z] at e; exact dpa_get h e
def ixD : D → D → Option D
  | .list xs, .int i => atI xs i
  | .tuple xs, .int i => atI xs i
  | .str z, .int i => if fits z.length then (atI z.cps.toList i).map fun c => .str ⟨#[c]⟩ else none
  | _, _ => none
theorem g_ix : OpG K (rIx K) ixD := fun F H x y dx dy d sF vx vy e Q q => by
  unfold ixD at e
  split at e
  · obtain ⟨p, xs, rfl, sq, al⟩ := vx.lst sF
    obtain ⟨v, hv, dp⟩ := atI_map al e
    rw [vy.int]
    exact .inl ⟨p, xs, _, v, rfl, rfl, sq, hv, q F H v .refl dp⟩
  · obtain ⟨p, xs, rfl, sq, al⟩ := vx.tup sF
    obtain ⟨v, hv, dp⟩ := atI_map al e
    rw [vy.int]
    exact .inr (.inl ⟨p, xs, _, v, rfl, rfl, sq, hv, q F H v .refl dp⟩)
  · split at e
    · rename_i hf
      rw [vx.str, vy.int]
      rename_i z i
      cases h : atI z.cps.toList i with
      | none => rw [h] at e; cases e
      | some cc =>
        rw [h] at e
        cases e
        exact .inr (.inr ⟨z, i, cc, rfl, rfl, fits_of hf, h, q F H _ .refl (.str _)⟩)
    · cases e
  · cases e
/-- -x -/
def u1 (g : Int → D) : D → Option D
  | .int i => some (g i)
  | _ => none
theorem g_u {g : Int → V} {g' : Int → D} (h : ∀ i, Sc (g i) (g' i)) : UnG K (rU g) (u1 g') := fun F H x dx d sF vx e Q q => by
  unfold u1 at e
  split at e
  · cases e
    rw [vx.int]
    exact ⟨_, rfl, q F H _ .refl (h _).dp⟩
  · cases e
def negI := u1 fun i => .int (-i)
theorem g_neg : UnG K (rU fun i => .int (-i)) negI := g_u fun _ => rfl
end
end Z
set_option Elab.async false
set_option linter.all false
set_option maxRecDepth 100000
namespace Z
open PySem L2
/-! ### statements -/
def sNx : MS := fun s => .nx s
def sSeq (a b : MS) : MS := fun s => match a s with
  | .nx s' => b s'
  | .rt d s' => .rt d s'
  | .bk s' => .bk s'
  | .ct s' => .ct s'
  | .ex x s' => .ex x s'
  | .no => .no
def sSet (i : Nat) (m : M D) : MS := fun s => match m s with
  | .ok d s' => .nx (s'.set i (some d))
  | .no => .no
def sDrop (m : M D) : MS := fun s => match m s with
  | .ok _ s' => .nx s'
  | .no => .no
def sRet (m : M D) : MS := fun s => match m s with
  | .ok d s' => .rt d s'
  | .no => .no
def sIf (t : M Bool) (a b : MS) : MS := fun s => match t s with
  | .ok true s' => a s'
  | .ok false s' => b s'
  | .no => .no
def sNo : MS := fun _ => .no
def sBk : MS := fun s => .bk s
def sCt : MS := fun s => .ct s
/-- targets -/
abbrev MG := D → DS → Option DS
def gN (i : Nat) : MG := fun d s => some (s.set i (some d))
def gT (n : Nat) (g : List D → DS → Option DS) : MG := fun d s => match d with
  | .tuple xs => if xs.length = n then g xs s else none
  | _ => none
def gL (n : Nat) (g : List D → DS → Option DS) : MG := fun d s => match d with
  | .list xs => if xs.length = n then g xs s else none
  | _ => none
def gC (a : MG) (r : List D → DS → Option DS) : List D → DS → Option DS := fun xs s => match xs with
  | x :: ys => match a x s with
    | some s' => r ys s'
    | none => none
  | [] => none
def gE : List D → DS → Option DS := fun xs s => match xs with
  | [] => some s
  | _ => none
def sAsg (m : M D) (g : MG) : MS := fun s => match m s with
  | .ok d s' => match g d s' with
    | some s2 => .nx s2
    | none => .no
  | .no => .no
/-- xs.append(e), xs a list of one's own -/
def sApp (i : Nat) (m : M D) : MS := fun s => match s[i]? with
  | some (some (.list _)) => match m s with
    | .ok d s' => match s'[i]? with
      | some (some (.list xs)) => if decide (xs.length < sizeLine) then .nx (s'.set i (some (.list (xs ++ [d])))) else .no
      | _ => .no
    | .no => .no
  | _ => .no
/-- xs[e] = m, xs a list of one's own -/
def sPut (i : Nat) (me : M D) (m : M D) : MS := fun s => match m s with
  | .ok d s1 => match s1[i]? with
    | some (some (.list _)) => match me s1 with
      | .ok k s2 => match k, s2[i]? with
        | .int k, some (some (.list xs)) => match ixN xs.length k with
          | some j => .nx (s2.set i (some (.list (xs.set j d))))
          | none => .no
        | _, _ => .no
      | .no => .no
    | _ => .no
  | .no => .no
/-- loops -/
def turn (f : DS → RS) : RS → RS
  | .nx s => f s
  | .ct s => f s
  | .bk s => .nx s
  | .rt d s => .rt d s
  | .ex x s => .ex x s
  | .no => .no
def loop (g : MG) (b : MS) : List D → MS
  | [], s => .nx s
  | d :: r, s => match g d s with
    | some s' => turn (loop g b r) (b s')
    | none => .no
def sFor (mi : M (List D)) (g : MG) (b : MS) : MS := fun s => match mi s with
  | .ok xs s' => loop g b xs s'
  | .no => .no
def wl (t : M Bool) (b : MS) : Nat → MS
  | 0, _ => .no
  | n + 1, s => match t s with
    | .ok true s' => turn (wl t b n) (b s')
    | .ok false s' => .nx s'
    | .no => .no
open Classical in
noncomputable def sWhile (t : M Bool) (b : MS) : MS := fun s => if h : ∃ n, wl t b n s ≠ .no then wl t b (Classical.choose h) s else .no
theorem wl_mono {t : M Bool} {b : MS} : ∀ {n : Nat} {s : DS} (k : Nat), wl t b n s ≠ .no → wl t b (n + k) s = wl t b n s
  | 0, s, k, h => absurd rfl h
  | n + 1, s, k, h => by
    rw [show n + 1 + k = (n + k) + 1 by omega]
    unfold wl at h ⊢
    cases e : t s with
    | no => simp [e] at h
    | ok v s' =>
      rw [e] at h
      cases v with
      | false => rfl
      | true =>
        dsimp only at h ⊢
        cases e2 : b s' with
        | nx s2 => rw [e2] at h; exact wl_mono k h
        | ct s2 => rw [e2] at h; exact wl_mono k h
        | bk s2 => rfl
        | rt d s2 => rfl
        | ex x s2 => rfl
        | no => rfl
theorem sWhile_of {t : M Bool} {b : MS} {s : DS} {r : RS} (n : Nat) (h : wl t b n s = r) (hr : r ≠ .no) : sWhile t b s = r := by
  have hx : ∃ n, wl t b n s ≠ .no := ⟨n, by rw [h]; exact hr⟩
  unfold sWhile
  rw [dif_pos hx]
  have h1 := Classical.choose_spec hx
  have h2 : wl t b n s ≠ .no := by rw [h]; exact hr
  have a := wl_mono n h1
  have b' := wl_mono (Classical.choose hx) h2
  rw [← a, Nat.add_comm, b', h]
section
variable {K : Fg} {c : Ctx} {Ob O O' O2 : List Kd} {te : TE} {tt : TT} {t u : TS} {m : M D} {m1 : M Bool} {a b : MS}
theorem Post.mono {F F' : Hp} {E : Ends} {r : RS} (s : Same F F') (h : Post K c Ob O' F E r) : Post K c Ob O' F' E r := by
  cases r with
  | nx _ => exact fun F2 H2 σ2 fps2 s2 => h F2 H2 σ2 fps2 (s.trans s2)
  | bk _ => exact fun F2 H2 σ2 fps2 s2 => h F2 H2 σ2 fps2 (s.trans s2)
  | ct _ => exact fun F2 H2 σ2 fps2 s2 => h F2 H2 σ2 fps2 (s.trans s2)
  | rt _ _ => exact fun F2 H2 σ2 fps2 O2 v fpv s2 => h F2 H2 σ2 fps2 O2 v fpv (s.trans s2)
  | ex _ _ => exact fun F2 H2 σ2 fps2 O2 cls dd hO s2 => h F2 H2 σ2 fps2 O2 cls dd hO (s.trans s2)
  | no => exact h
theorem c_nil : DC K c Ob O tNext sNx O := ⟨fun r E p => p _ _ _ _ (Same.refl _) r⟩
theorem c_cons (h1 : DC K c Ob O t a O2) (h2 : DC K c Ob O2 u b O') : DC K c Ob O (tSeq t u) (sSeq a b) O' := ⟨fun {F H σ fps ds} r E p => by
  refine h1.run r _ ?_
  show Post K c Ob O2 F { E with nx := u E } (a ds)
  have p' : Post K c Ob O' F E (sSeq a b ds) := p
  unfold sSeq at p'
  cases e : a ds with
  | nx s' => rw [e] at p'; exact fun F1 H1 σ1 fps1 s1 r1 => h2.run r1 E (p'.mono s1)
  | bk _ => rw [e] at p'; exact p'
  | ct _ => rw [e] at p'; exact p'
  | rt _ _ => rw [e] at p'; exact p'
  | ex _ _ => rw [e] at p'; exact p'
  | no => rw [e] at p'; exact p'⟩
theorem c_set (i : Nat) (h : DE K c O te m) (hi : i < O.length := by first | decide | exact of_decide_eq_true rfl) (hp : isPm O[i]? = false := by rfl) : DC K c Ob O (tAsg te (gName i)) (sSet i m) (O.set i .sh) := ⟨fun {F H σ fps ds} r E p => by
  unfold sSet at p
  cases e : m ds with
  | no => rw [e] at p; exact p.elim
  | ok d s' =>
    rw [e] at p
    refine h.run r e _ fun F1 H1 fps1 v s1 r1 dp => ?_
    exact p F1 H1 _ _ s1 (r1.put hi hp (k := .sh) (fpv := []) ⟨rfl, dp⟩ (fun q hq => absurd hq (by simp)) (by simp))⟩
theorem c_setO (i : Nat) {k : Kd} (h : DO K c O k te m) (hi : i < O.length := by first | decide | exact of_decide_eq_true rfl) (hp : isPm O[i]? = false := by rfl) : DC K c Ob O (tAsg te (gName i)) (sSet i m) (O.set i k) := ⟨fun {F H σ fps ds} r E p => by
  unfold sSet at p
  cases e : m ds with
  | no => rw [e] at p; exact p.elim
  | ok d s' =>
    rw [e] at p
    refine h.run r e _ fun F1 H1 fps1 v fpv s1 r1 ow hf nd => ?_
    exact p F1 H1 _ _ s1 (r1.put hi hp ow (fun q hq => ⟨(hf q hq).1, (hf q hq).2.1, (hf q hq).2.2.1, fun j _ => (hf q hq).2.2.2 j⟩) nd)⟩
theorem c_drop (h : DE K c O te m) : DC K c Ob O (tDrop te) (sDrop m) O := ⟨fun {F H σ fps ds} r E p => by
  unfold sDrop at p
  cases e : m ds with
  | no => rw [e] at p; exact p.elim
  | ok d s' =>
    rw [e] at p
    exact h.run r e _ fun F1 H1 fps1 v s1 r1 dp => p F1 H1 _ _ s1 r1⟩
theorem c_ret (h : DE K c O te m) (hk : c.rk = .sh) : DC K c Ob O (tRet te) (sRet m) O' := ⟨fun {F H σ fps ds} r E p => by
  unfold sRet at p
  cases e : m ds with
  | no => rw [e] at p; exact p.elim
  | ok d s' =>
    rw [e] at p
    exact h.run r e _ fun F1 H1 fps1 v s1 r1 dp => p F1 H1 σ fps1 O v [] s1 r1 (by rw [hk]; exact ⟨rfl, dp⟩) (fun q hq => absurd hq (by simp)) (by simp)⟩
theorem c_retO {k : Kd} (h : DO K c O k te m) (hk : c.rk = k) : DC K c Ob O (tRet te) (sRet m) O' := ⟨fun {F H σ fps ds} r E p => by
  unfold sRet at p
  cases e : m ds with
  | no => rw [e] at p; exact p.elim
  | ok d s' =>
    rw [e] at p
    refine h.run r e _ fun F1 H1 fps1 v fpv s1 r1 ow hf nd => p F1 H1 σ fps1 O v fpv s1 r1 (by rw [hk]; exact ow) (fun q hq => ?_) nd
    obtain ⟨h1, h2, h3, h4⟩ := hf q hq
    exact ⟨h1, h2, h3, fun i _ => h4 i⟩⟩
theorem c_if (h : DT K c O tt m1) (h1 : DC K c Ob O t a O') (h2 : DC K c Ob O u b O') : DC K c Ob O (tIfS tt t u) (sIf m1 a b) O' := ⟨fun {F H σ fps ds} r E p => by
  unfold sIf at p
  cases e : m1 ds with
  | no => rw [e] at p; exact p.elim
  | ok v s' =>
    rw [e] at p
    refine h.run r e _ fun F1 H1 fps1 s1 r1 => ?_
    cases v with
    | true => exact iteT (h1.run r1 E (p.mono s1))
    | false => exact iteF (h2.run r1 E (p.mono s1))⟩
theorem c_never : DC K c Ob O tNever sNo O' := ⟨fun r E p => p.elim⟩
theorem c_bk : DC K c O O tBreak sBk O' := ⟨fun r E p => p _ _ _ _ (Same.refl _) r⟩
theorem c_ct : DC K c O O tCont sCt O' := ⟨fun r E p => p _ _ _ _ (Same.refl _) r⟩
/-! ### freezing: a list of one's own is read alone from now on -/
theorem frz_sh {F H : Hp} {p : Addr} {xs : List V} {ds : List D} (hp : H p = some (.lst xs)) (al : DpAll K F xs ds) (hF : F p = none) : Dp K (upd F p (.lst xs)) (.ref p) (.list ds) := .lst (SqL.of upd_same) (dpa_mono (same_upd hF) al)
theorem Rel.freeze {F H : Hp} {σ : St} {fps : Nat → List Addr} {ds : DS} (r : Rel K c O F H σ fps ds) (i : Nat) (hk : O[i]? = some (.ls .sh)) (hs : ∃ d, ds[i]? = some (some d)) :
    ∃ F', Same F F' ∧ Rel K c (O.set i .sh) F' H σ (fun j => if j = i then [] else fps j) ds := by
  obtain ⟨d, hd⟩ := hs
  obtain ⟨v, hv, ow⟩ := r.slots i d hd
  have hk' : O.getD i .sh = .ls .sh := by rw [List.getD_eq_getElem?_getD, hk]; rfl
  have hi : i < O.length := (List.getElem?_eq_some_iff.mp hk).1
  rw [hk'] at ow
  obtain ⟨p, xs, es, rfl, rfl, hp, hfp, al⟩ := ow_ls rfl ow
  have hmem : p ∈ fps i := by rw [hfp]; simp
  obtain ⟨hF, hH, h0⟩ := r.off i p hmem
  have hnp : ∀ k, c.ps[i]? ≠ some (.pm k) := fun k z => by
    have := (r.par i k z).1
    rw [hk] at this
    cases this
  have h0' : c.H0 p = none := by
    rcases h0 with h | ⟨_, h⟩
    · exact h
    · rw [hk] at h; cases h
  have sF : Same F (upd F p (.lst xs)) := same_upd hF
  have hoff : ∀ j q, j ≠ i → q ∈ fps j → q ≠ p := fun j q hj hq z => by subst z; exact r.dj j i hj q hq hmem
  refine ⟨upd F p (.lst xs), sF, fun b o e => ?_, r.base.trans sF, r.keep, r.live, fun b o e => ?_, fun j d' hj => ?_, fun j q hq => ?_, fun j => ?_, fun j l hjl q hq hq' => ?_, fun j k h => ?_, r.len⟩
  · by_cases hb : b = p
    · subst hb; rw [upd_same] at e; rw [hp]; exact e
    · rw [upd_ne hb] at e; exact r.sub b o e
  · by_cases hb : b = p
    · subst hb; exact .inr h0'
    · rw [upd_ne hb] at e; exact r.new b o e
  · by_cases z : j = i
    · subst z
      rw [hd] at hj
      cases hj
      refine ⟨_, hv, ?_⟩
      rw [getD_set_eq hi]
      simp only [if_pos]
      exact ⟨rfl, frz_sh hp al hF⟩
    · obtain ⟨u, hu, w⟩ := r.slots j d' hj
      refine ⟨u, hu, ?_⟩
      rw [getD_set_ne z]
      simp only [if_neg z]
      exact ow_mono sF w fun _ _ => rfl
  · by_cases z : j = i
    · simp only [z, if_pos] at hq
      exact absurd hq (by simp)
    · simp only [if_neg z] at hq
      rw [List.getElem?_set_ne (Ne.symm z), upd_ne (hoff j q z hq)]
      exact r.off j q hq
  · by_cases z : j = i
    · simp only [z, if_pos]; simp
    · simp only [if_neg z]; exact r.nd j
  · by_cases z : j = i
    · simp only [z, if_pos] at hq
      exact absurd hq (by simp)
    · by_cases z' : l = i
      · simp only [z', if_pos] at hq'
        exact absurd hq' (by simp)
      · simp only [if_neg z] at hq
        simp only [if_neg z'] at hq'
        exact r.dj j l hjl q hq hq'
  · obtain ⟨x, y⟩ := r.par j k h
    have hj : j ≠ i := fun z => by subst z; exact hnp k h
    exact ⟨by rw [List.getElem?_set_ne (Ne.symm hj)]; exact x, y⟩
/-- from here on slot i is read alone -/
def sFrz (i : Nat) (b : MS) : MS := fun s => match s[i]? with
  | some (some _) => b s
  | _ => .no
theorem c_frz (i : Nat) (hk : O[i]? = some (.ls .sh)) (h : DC K c Ob (O.set i .sh) t b O') : DC K c Ob O t (sFrz i b) O' := ⟨fun {F H σ fps ds} r E p => by
  unfold sFrz at p
  split at p
  · rename_i d hd
    obtain ⟨F', s, r'⟩ := r.freeze i hk ⟨d, hd⟩
    exact h.run r' E (p.mono s)
  · exact p.elim⟩
/-! ### lists of one's own are changed -/
theorem Rel.mut {F H : Hp} {σ : St} {fps : Nat → List Addr} {ds : DS} (r : Rel K c O F H σ fps ds) {i : Nat} {p : Addr} {xs : List V} {es : List D} (hk : lsish (O.getD i .sh) = true) (hs : ∃ d, ds[i]? = some (some d)) (hv : σ[i]? = some (some (.ref p))) (hp : fps i = [p]) (al : DpAll K F xs es) :
    Rel K c O F (upd H p (.lst xs)) σ fps (ds.set i (some (.list es))) := by
  have hmem : p ∈ fps i := by rw [hp]; simp
  obtain ⟨hF, hH, h0⟩ := r.off i p hmem
  have hoff : ∀ j q, j ≠ i → q ∈ fps j → q ≠ p := fun j q hj hq z => by subst z; exact r.dj j i hj q hq hmem
  obtain ⟨d0, hd0⟩ := hs
  have hl : i < ds.length := (List.getElem?_eq_some_iff.mp hd0).1
  refine ⟨fun b o e => ?_, r.base, fun b o e n => ?_, fun b e => ?_, r.new, fun j d hj => ?_, fun j q hq => ?_, r.nd, r.dj, r.par, by rw [List.length_set]; exact r.len⟩
  · rw [upd_ne (ne_of_none e hF)]; exact r.sub b o e
  · have hb : b ≠ p := fun z => by
      subst z
      rcases h0 with h | ⟨h, _⟩
      · rw [h] at e; cases e
      · exact n h
    rw [upd_ne hb]; exact r.keep b o e n
  · by_cases hb : b = p
    · subst hb; rw [upd_same] at e; cases e
    · rw [upd_ne hb] at e; exact r.live b e
  · by_cases z : j = i
    · subst z
      rw [List.getElem?_set_self hl] at hj
      cases hj
      refine ⟨_, hv, ?_⟩
      rw [hp]
      have ow : Ow K F (upd H p (.lst xs)) (.ls .sh) (.ref p) (.list es) [p] := ls_ow upd_same al
      unfold lsish at hk
      split at hk
      · rename_i e; rw [e]; exact ow
      · rename_i e; rw [e]; exact ow
      · cases hk
    · rw [List.getElem?_set_ne (Ne.symm z)] at hj
      obtain ⟨u, hu, w⟩ := r.slots j d hj
      exact ⟨u, hu, ow_mono (Same.refl _) w fun q hq => upd_ne (hoff j q z hq)⟩
  · by_cases z : q = p
    · subst z
      exact ⟨hF, by rw [upd_same]; simp, (r.off j q hq).2.2⟩
    · rw [upd_ne z]; exact r.off j q hq
theorem c_app (i : Nat) (h : DE K c O te m) (hk : lsish (O.getD i .sh) = true := by rfl) : DC K c Ob O (tDrop (tBM K "list" rAppend (tVar i) (tCons te tNil))) (sApp i m) O := ⟨fun {F H σ fps ds} r E p => by
  unfold sApp at p
  split at p
  · rename_i ys hy
    obtain ⟨v, hv, ow⟩ := r.slots i _ hy
    obtain ⟨q0, zs, es, rfl, _, hq0, _, _⟩ := ow_ls hk ow
    refine ⟨_, hv, .inl ⟨rfl, zs, SqL.of hq0⟩, ?_⟩
    cases e : m ds with
    | no => rw [e] at p; exact p.elim
    | ok d s' =>
      rw [e] at p
      dsimp only at p
      split at p
      · rename_i xs hx
        split at p
        · rename_i hz
          refine h.run r e _ fun F1 H1 fps1 w s1 r1 dp => ?_
          obtain ⟨v1, hv1, ow1⟩ := r1.slots i _ hx
          obtain ⟨q1, zs1, es1, rfl, e2, hq1, hfp, al⟩ := ow_ls hk ow1
          cases e2
          have e3 : q1 = q0 := by rw [hv] at hv1; cases hv1; rfl
          subst e3
          refine ⟨_, zs1, w, rfl, rfl, hq1, by rw [dpa_len al]; exact of_decide_eq_true hz, ?_⟩
          exact p F1 _ σ fps1 s1 (r1.mut hk ⟨_, hx⟩ hv hfp (dpa_append al (.cons dp .nil)))
        · exact p.elim
      · exact p.elim
  · exact p.elim⟩
theorem c_put (i : Nat) {ti : TE} {mi : M D} (h : DE K c O te m) (hi : DE K c O ti mi) (hk : lsish (O.getD i .sh) = true := by rfl) : DC K c Ob O (tAsg te (gSub (tVar i) ti rSetL)) (sPut i mi m) O := ⟨fun {F H σ fps ds} r E p => by
  unfold sPut at p
  cases e : m ds with
  | no => rw [e] at p; exact p.elim
  | ok d s' =>
    rw [e] at p
    dsimp only at p
    refine h.run r e _ fun F1 H1 fps1 w s1 r1 dp => ?_
    split at p
    · rename_i ys hy
      obtain ⟨v, hv, ow⟩ := r1.slots i _ hy
      refine ⟨_, hv, ?_⟩
      cases e2 : mi s' with
      | no => rw [e2] at p; exact p.elim
      | ok k s2 =>
        rw [e2] at p
        dsimp only at p
        refine hi.run r1 e2 _ fun F2 H2 fps2 w2 s2 r2 dp2 => ?_
        split at p
        · rename_i kk xs hx
          cases dp2
          split at p
          · rename_i j hj
            obtain ⟨v1, hv1, ow1⟩ := r2.slots i _ hx
            obtain ⟨q1, zs1, es1, rfl, e3, hq1, hfp, al⟩ := ow_ls hk ow1
            cases e3
            have e4 : v = .ref q1 := by rw [hv] at hv1; cases hv1; rfl
            subst e4
            refine ⟨q1, zs1, kk, j, rfl, rfl, hq1, by rw [dpa_len al]; exact hj, ?_⟩
            exact p F2 _ σ fps2 (s1.trans s2) (r2.mut hk ⟨_, hx⟩ hv hfp (dpa_set (dp_mono s2 dp) j al))
          · exact p.elim
        · exact p.elim
    · exact p.elim⟩
/-! ### targets -/
structure DG (K : Fg) (c : Ctx) (O : List Kd) (g : TG) (mg : MG) : Prop where
  run : ∀ {F H : Hp} {σ : St} {fps : Nat → List Addr} {ds ds' : DS} {v : V} {d : D}, Rel K c O F H σ fps ds → Dp K F v d → mg d ds = some ds' → ∀ Q : St → Hp → Prop,
    (∀ σ' fps', Rel K c O F H σ' fps' ds' → Q σ' H) → g v σ H Q
structure DGs (K : Fg) (c : Ctx) (O : List Kd) (g : TGs) (mg : List D → DS → Option DS) : Prop where
  run : ∀ {F H : Hp} {σ : St} {fps : Nat → List Addr} {ds ds' : DS} {vs : List V} {es : List D}, Rel K c O F H σ fps ds → DpAll K F vs es → mg es ds = some ds' → ∀ Q : St → Hp → Prop,
    (∀ σ' fps', Rel K c O F H σ' fps' ds' → Q σ' H) → g vs σ H Q
theorem g_name (i : Nat) (hi : O[i]? = some .sh := by rfl) : DG K c O (gName i) (gN i) := ⟨fun {F H σ fps ds ds' v d} r dp e Q q => by
  cases e
  have hl : i < O.length := (List.getElem?_eq_some_iff.mp hi).1
  have r' := r.put hl (by rw [hi]; rfl) (k := .sh) (v := v) (d := d) (fpv := []) ⟨rfl, dp⟩ (fun q hq => absurd hq (by simp)) (by simp)
  have eO : O.set i .sh = O := by
    apply List.ext_getElem? 
    intro j
    by_cases z : j = i
    · subst z; rw [List.getElem?_set_self hl, hi]
    · rw [List.getElem?_set_ne (Ne.symm z)]
  rw [eO] at r'
  exact q _ _ r'⟩
theorem gs_nil : DGs K c O gNil gE := ⟨fun {F H σ fps ds ds' vs es} r al e Q q => by
  cases al with
  | nil => cases e; exact ⟨rfl, q _ _ r⟩
  | cons _ _ => cases e⟩
theorem gs_cons {g : TG} {gs : TGs} {a : MG} {b : List D → DS → Option DS} (h1 : DG K c O g a) (h2 : DGs K c O gs b) : DGs K c O (gCons g gs) (gC a b) := ⟨fun {F H σ fps ds ds' vs es} r al e Q q => by
  cases al with
  | nil => cases e
  | cons dp al =>
    unfold gC at e
    dsimp only at e
    split at e
    · rename_i s' hs
      exact ⟨_, _, rfl, h1.run r dp hs _ fun σ1 fps1 r1 => h2.run r1 al e Q q⟩
    · cases e⟩
theorem g_tup {n : Nat} {gs : TGs} {b : List D → DS → Option DS} (h : DGs K c O gs b) : DG K c O (gTup K n gs) (gT n b) := ⟨fun {F H σ fps ds ds' v d} r dp e Q q => by
  unfold gT at e
  split at e
  · split at e
    · rename_i hn
      cases dp with
      | tup hq al => exact ⟨_, _, rfl, sqT_mono r.sub hq, by rw [dpa_len al]; exact hn, h.run r al e Q q⟩
    · cases e
  · cases e⟩
theorem g_unl {n : Nat} {gs : TGs} {b : List D → DS → Option DS} (h : DGs K c O gs b) : DG K c O (gUnl K n gs) (gL n b) := ⟨fun {F H σ fps ds ds' v d} r dp e Q q => by
  unfold gL at e
  split at e
  · split at e
    · rename_i hn
      cases dp with
      | lst hq al => exact ⟨_, _, rfl, sqL_mono r.sub hq, by rw [dpa_len al]; exact hn, h.run r al e Q q⟩
    · cases e
  · cases e⟩
theorem c_asg {g : TG} {mg : MG} (h : DE K c O te m) (hg : DG K c O g mg) : DC K c Ob O (tAsg te g) (sAsg m mg) O := ⟨fun {F H σ fps ds} r E p => by
  unfold sAsg at p
  cases e : m ds with
  | no => rw [e] at p; exact p.elim
  | ok d s' =>
    rw [e] at p
    dsimp only at p
    refine h.run r e _ fun F1 H1 fps1 w s1 r1 dp => ?_
    split at p
    · rename_i s2 hs
      exact hg.run r1 dp hs _ fun σ2 fps2 r2 => p F1 H1 σ2 fps2 s1 r2
    · exact p.elim⟩
/-! ### loops -/
def Walks (K : Fg) (F : Hp) (J : It) (xs : List D) : Prop := ∀ F1 H1 i, Same F F1 → Same F1 H1 →
  (∀ d, xs[i]? = some d → J.go i H1 ∧ ∀ x H2, J.yld i H1 x H2 → ∃ F2, Grow F1 H1 F2 H2 ∧ Dp K F2 x d) ∧ (i = xs.length → J.stop i H1)
structure DI (K : Fg) (c : Ctx) (O : List Kd) (w : TI) (m : M (List D)) : Prop where
  run : ∀ {F H : Hp} {σ : St} {fps : Nat → List Addr} {ds ds' : DS} {xs : List D}, Rel K c O F H σ fps ds → m ds = .ok xs ds' → ∀ R : It → Hp → Prop,
    (∀ F' H' fps' J, Same F F' → Rel K c O F' H' σ fps' ds' → Walks K F' J xs → R J H') → w σ H R
theorem c_for {wi : TI} {mi : M (List D)} {g : TG} {mg : MG} {tb : TS} {b : MS} (hi : DI K c O wi mi) (hg : DG K c O g mg) (hb : DC K c O O tb b O) : DC K c Ob O (tFor wi g tb) (sFor mi mg b) O := ⟨fun {F H σ fps ds} r E p => by
  unfold sFor at p
  cases e : mi ds with
  | no => rw [e] at p; exact p.elim
  | ok xs s' =>
    rw [e] at p
    dsimp only at p
    refine hi.run r e _ fun F1 H1 fps1 J s1 r1 wk => ?_
    refine ⟨fun i m σ H => m + i = xs.length ∧ ∃ F' fps' ds', Same F1 F' ∧ Rel K c O F' H σ fps' ds' ∧ Post K c Ob O F' E (loop mg b (xs.drop i) ds'), ⟨xs.length, by omega, F1, fps1, s', Same.refl _, r1, p.mono s1⟩, ?_⟩
    rintro i m σ2 H2 ⟨hm, F2, fps2, ds2, s2, r2, p2⟩
    obtain ⟨w1, w2⟩ := wk F2 H2 i s2 r2.sub
    cases hx : xs[i]? with
    | none =>
      have hl : xs.length ≤ i := List.getElem?_eq_none_iff.mp hx
      have hi' : i = xs.length := by omega
      refine .inl ⟨w2 hi', ?_⟩
      rw [List.drop_of_length_le hl] at p2
      exact p2 F2 H2 σ2 fps2 (Same.refl _) r2
    | some d =>
      obtain ⟨go, yl⟩ := w1 d hx
      have hlt : i < xs.length := (List.getElem?_eq_some_iff.mp hx).1
      have hd : xs.drop i = d :: xs.drop (i + 1) := by
        rw [List.drop_eq_getElem_cons hlt]
        congr 1
        rw [List.getElem?_eq_getElem hlt] at hx
        exact Option.some.inj hx
      rw [hd] at p2
      unfold loop at p2
      refine .inr ⟨go, fun σ' H' => ∃ F' fps' ds', Same F1 F' ∧ Rel K c O F' H' σ' fps' ds' ∧ Post K c Ob O F' E (loop mg b (xs.drop (i + 1)) ds'), fun σ' H' h => ⟨m - 1, by omega, by omega, h⟩, fun x H3 hy => ?_⟩
      obtain ⟨F3, gr, dp⟩ := yl x H3 hy
      obtain ⟨r3, s3⟩ := gr.rel r2
      split at p2
      · rename_i ds3 hg3
        refine hg.run r3 dp hg3 _ fun σ4 fps4 r4 => ?_
        refine hb.run r4 _ ?_
        have s13 : Same F1 F3 := s2.trans s3
        have p3 := p2.mono s3
        cases eb : b ds3 with
        | nx s4 => rw [eb] at p3; exact fun F5 H5 σ5 fps5 s5 r5 => ⟨F5, fps5, s4, s13.trans s5, r5, p3.mono s5⟩
        | ct s4 => rw [eb] at p3; exact fun F5 H5 σ5 fps5 s5 r5 => ⟨F5, fps5, s4, s13.trans s5, r5, p3.mono s5⟩
        | bk s4 => rw [eb] at p3; exact fun F5 H5 σ5 fps5 s5 r5 => p3 F5 H5 σ5 fps5 s5 r5
        | rt d s4 => rw [eb] at p3; exact p3
        | ex x s4 => rw [eb] at p3; exact p3
        | no => rw [eb] at p3; exact p3.elim
      · exact p2.elim⟩
theorem c_while {tc : TT} {mt : M Bool} {tb : TS} {b : MS} (hc : DT K c O tc mt) (hb : DC K c O O tb b O) : DC K c Ob O (tWhile tc tb) (sWhile mt b) O := ⟨fun {F H σ fps ds} r E p => by
  have hx : ∃ n, wl mt b n ds ≠ .no := by
    refine Classical.byContradiction fun z => ?_
    unfold sWhile at p
    rw [dif_neg z] at p
    exact p.elim
  obtain ⟨n, hn⟩ := hx
  rw [sWhile_of n rfl hn] at p
  refine ⟨fun m σ H => ∃ F' fps' ds', Rel K c O F' H σ fps' ds' ∧ Post K c Ob O F' E (wl mt b m ds'), ⟨n, F, fps, ds, r, p⟩, ?_⟩
  rintro m σ2 H2 ⟨F2, fps2, ds2, r2, p2⟩
  cases m with
  | zero => exact p2.elim
  | succ m =>
    unfold wl at p2
    cases e : mt ds2 with
    | no => rw [e] at p2; exact p2.elim
    | ok v s' =>
      rw [e] at p2
      refine hc.run r2 e _ fun F3 H3 fps3 s3 r3 => ?_
      cases v with
      | false => exact iteF (p2 F3 H3 σ2 fps3 s3 r3)
      | true =>
        refine iteT ⟨fun σ' H' => ∃ F' fps' ds', Rel K c O F' H' σ' fps' ds' ∧ Post K c Ob O F' E (wl mt b m ds'), fun σ' H' h => ⟨m, by omega, h⟩, ?_⟩
        dsimp only at p2
        refine hb.run r3 _ ?_
        have p3 := p2.mono s3
        cases eb : b s' with
        | nx s4 => rw [eb] at p3; exact fun F5 H5 σ5 fps5 s5 r5 => ⟨F5, fps5, s4, r5, p3.mono s5⟩
        | ct s4 => rw [eb] at p3; exact fun F5 H5 σ5 fps5 s5 r5 => ⟨F5, fps5, s4, r5, p3.mono s5⟩
        | bk s4 => rw [eb] at p3; exact fun F5 H5 σ5 fps5 s5 r5 => p3 F5 H5 σ5 fps5 s5 r5
        | rt d s4 => rw [eb] at p3; exact p3
        | ex x s4 => rw [eb] at p3; exact p3
        | no => rw [eb] at p3; exact p3.elim⟩
end
end Z
set_option Elab.async false
set_option linter.all false
set_option maxRecDepth 100000
namespace Z
open PySem L2
inductive RF where
  | ok (d : D) (as : List D)
  | ex (x : Xc) (as : List D)
  | no
abbrev FD := List D → RF
def look (s : DS) (i : Nat) : Option D := match s[i]? with
  | some (some d) => some d
  | _ => none
def entry (N : Nat) (args : List D) : DS := args.map some ++ List.replicate (N - args.length) none
def leave (n : Nat) (d : D) (s : DS) : RF := match (List.range n).mapM (look s) with
  | some as => .ok d as
  | none => .no
def leaveX (n : Nat) (x : Xc) (s : DS) : RF := match (List.range n).mapM (look s) with
  | some as => .ex x as
  | none => .no
def fnD (N n : Nat) (rk : Kd) (b : MS) : FD := fun args => if args.length = n then (match b (entry N args) with
  | .rt d s => leave n d s
  | .ex x s => leaveX n x s
  | .nx s => if rk = .sh then leave n .none s else .no
  | _ => .no) else .no
structure ArgR (K : Fg) (ps : List Kd) (F H : Hp) (vs : List V) (fps : Nat → List Addr) (args : List D) : Prop where
  lv : vs.length = ps.length
  la : args.length = ps.length
  sub : Same F H
  ow : ∀ i d, args[i]? = some d → ∃ v, vs[i]? = some v ∧ Ow K F H (ps.getD i .sh) v d (fps i)
  off : ∀ i q, q ∈ fps i → F q = none ∧ H q ≠ none
  nd : ∀ i, (fps i).Nodup
  dj : ∀ i j, i ≠ j → ∀ q, q ∈ fps i → q ∉ fps j
/-- what was handed in for good -/
def Mv (ps : List Kd) (fps : Nat → List Addr) (b : Addr) : Prop := ∃ i, b ∈ fps i ∧ isPm ps[i]? = false
/-- behind a call -/
structure OutB (K : Fg) (ps : List Kd) (F H F' H' : Hp) (vs : List V) (fps fps' : Nat → List Addr) (args' : List D) : Prop where
  ext : Same F F'
  sub : Same F' H'
  keep : ∀ b o, H b = some o → (∀ i, b ∉ fps i) → H' b = some o
  live : ∀ b, H' b = none → H b = none ∨ Mv ps fps b
  new : ∀ b o, F' b = some o → F b = some o ∨ H b = none ∨ Mv ps fps b
  ow : ∀ i k e, ps[i]? = some (.pm k) → args'[i]? = some e → ∃ u, vs[i]? = some u ∧ Ow K F' H' k u e (fps' i)
  off : ∀ i q, isPm ps[i]? = true → q ∈ fps' i → F' q = none ∧ H' q ≠ none ∧ (H q = none ∨ ∃ j, q ∈ fps j)
  nd : ∀ i, (fps' i).Nodup
  dj : ∀ i j, i ≠ j → ∀ q, q ∈ fps' i → q ∉ fps' j
structure OutR (K : Fg) (ps : List Kd) (rk : Kd) (F H F' H' : Hp) (vs : List V) (fps fps' : Nat → List Addr) (args' : List D) (v : V) (d : D) (fpv : List Addr) : Prop extends OutB K ps F H F' H' vs fps fps' args' where
  res : Ow K F' H' rk v d fpv
  roff : ∀ q ∈ fpv, F' q = none ∧ H' q ≠ none ∧ (H q = none ∨ Mv ps fps q) ∧ ∀ i, ps[i]?.isSome = true → q ∉ fps' i
  rnd : fpv.Nodup
theorem OutB.live0 {K : Fg} {ps : List Kd} {F H F' H' : Hp} {vs : List V} {fps fps' : Nat → List Addr} {args' : List D} (o : OutB K ps F H F' H' vs fps fps' args') (hm : ∀ b, ¬ Mv ps fps b) : ∀ b, H' b = none → H b = none := fun b e => (o.live b e).elim id fun z => absurd z (hm b)
theorem OutB.new0 {K : Fg} {ps : List Kd} {F H F' H' : Hp} {vs : List V} {fps fps' : Nat → List Addr} {args' : List D} (o : OutB K ps F H F' H' vs fps fps' args') (hm : ∀ b, ¬ Mv ps fps b) : ∀ b u, F' b = some u → F b = some u ∨ H b = none := fun b u e => (o.new b u e).imp id fun z => z.elim id fun z => absurd z (hm b)
theorem OutR.roff0 {K : Fg} {ps : List Kd} {rk : Kd} {F H F' H' : Hp} {vs : List V} {fps fps' : Nat → List Addr} {args' : List D} {v : V} {d : D} {fpv : List Addr} (o : OutR K ps rk F H F' H' vs fps fps' args' v d fpv) (hm : ∀ b, ¬ Mv ps fps b) : ∀ q ∈ fpv, F' q = none ∧ H' q ≠ none ∧ H q = none ∧ ∀ i, ps[i]?.isSome = true → q ∉ fps' i := fun q hq => by
  obtain ⟨h1, h2, h3, h4⟩ := o.roff q hq
  exact ⟨h1, h2, h3.elim id fun z => absurd z (hm q), h4⟩
theorem mv_nil {ps : List Kd} (b : Addr) : ¬ Mv ps (fun _ => []) b := fun ⟨_, h, _⟩ => by cases h
theorem mv_one {ps : List Kd} {k : Kd} {fp : List Addr} (b : Addr) : ¬ Mv (.pm k :: ps) (fun i => if i = 0 then fp else []) b := fun ⟨i, h, e⟩ => by
  by_cases z : i = 0
  · subst z; cases e
  · simp only [if_neg z] at h; cases h
def spD (K : Fg) (mg : Str → Option Value) (f : FD) (ps : List Kd) (rk : Kd) : Sp := fun vs H Q E => ∃ (F : Hp) (fps : Nat → List Addr) (args : List D), ArgR K ps F H vs fps args ∧ match f args with
  | .ok d args' => ∀ F' H' fps' v fpv, OutR K ps rk F H F' H' vs fps fps' args' v d fpv → Q v H'
  | .ex x args' => ∀ F' H' fps' cls dd, OutB K ps F H F' H' vs fps fps' args' → ExOk K mg F' x cls dd → E cls dd H'
  | .no => False
theorem spD_ok {K : Fg} {mg : Str → Option Value} {f : FD} {ps : List Kd} {rk : Kd} {vs : List V} {H : Hp} {Q : VK} {E : XK} {F : Hp} {fps : Nat → List Addr} {args args' : List D} {d : D} (A : ArgR K ps F H vs fps args) (e : f args = .ok d args')
    (q : ∀ F' H' fps' v fpv, OutR K ps rk F H F' H' vs fps fps' args' v d fpv → Q v H') : spD K mg f ps rk vs H Q E := ⟨F, fps, args, A, by rw [e]; exact q⟩
theorem spD_ex {K : Fg} {mg : Str → Option Value} {f : FD} {ps : List Kd} {rk : Kd} {vs : List V} {H : Hp} {Q : VK} {E : XK} {F : Hp} {fps : Nat → List Addr} {args args' : List D} {x : Xc} (A : ArgR K ps F H vs fps args) (e : f args = .ex x args')
    (q : ∀ F' H' fps' cls dd, OutB K ps F H F' H' vs fps fps' args' → ExOk K mg F' x cls dd → E cls dd H') : spD K mg f ps rk vs H Q E := ⟨F, fps, args, A, by rw [e]; exact q⟩
theorem mapM_get {s : DS} : ∀ {l : List Nat} {as : List D} {i : Nat} {d : D}, l.mapM (look s) = some as → as[i]? = some d → ∃ j, l[i]? = some j ∧ look s j = some d
  | [], as, i, d, h, e => by cases h; simp at e
  | j :: l, as, i, d, h, e => by
    rw [List.mapM_cons] at h
    cases e1 : look s j with
    | none => rw [e1] at h; cases h
    | some x =>
      cases e2 : l.mapM (look s) with
      | none => rw [e1, e2] at h; cases h
      | some xs =>
        rw [e1, e2] at h
        cases h
        cases i with
        | zero => cases e; exact ⟨j, rfl, e1⟩
        | succ i => exact mapM_get (l := l) e2 (by simpa using e)
theorem look_some {s : DS} {i : Nat} {d : D} (h : look s i = some d) : s[i]? = some (some d) := by
  unfold look at h
  split at h
  · rename_i e; cases h; exact e
  · cases h
section
variable {K : Fg} {mg : Str → Option Value} {ps : List Kd} {rk : Kd}
/-- a def's body keeps its meaning -/
theorem body_ok {t : TS} {b : MS} {N : List Str} {O0 O1 : List Kd} {vs : List V} {H : Hp} {Q : VK} (hO : O0 = ps ++ List.replicate (N.length - ps.length) .sh)
    (E : XK) (h : ∀ c : Ctx, c.ps = ps → c.rk = rk → c.mg = mg → c.Ox = none → (c.W = fun cls d _ H => E cls d H) → DC K c [] O0 t b O1) (sp : spD K mg (fnD N.length ps.length rk b) ps rk vs H Q E) (hN : ps.length ≤ N.length) : t { nx := fun _ H' => Q .non H', rt := Q } (L2.start N vs) H := by
  obtain ⟨F, fps, args, A, q⟩ := sp
  let c : Ctx := { F0 := F, H0 := fun b => open Classical in if Mv ps fps b then none else H b, own := fun q => ∃ i, q ∈ fps i ∧ isPm ps[i]? = true, ps := ps, rk := rk, arg := fun i => vs.getD i .non, mg := mg, W := fun cls d _ H => E cls d H, Ox := none }
  have hO0 : ∀ i, i < ps.length → O0[i]? = ps[i]? := fun i hi => by rw [hO, List.getElem?_append_left hi]
  have hpl : ∀ i, isPm ps[i]? = true → i < ps.length := fun i hi => by
    cases Nat.lt_or_ge i ps.length with
    | inl h => exact h
    | inr h => rw [List.getElem?_eq_none h] at hi; cases hi
  have hst : ∀ i v, vs[i]? = some v → (L2.start N vs)[i]? = some (some v) := fun i v hv => by
    unfold L2.start
    have hi : i < vs.length := (List.getElem?_eq_some_iff.mp hv).1
    rw [List.getElem?_append_left (by simpa using hi), List.getElem?_map, hv]
    rfl
  have hS : ∀ b o, c.H0 b = some o → H b = some o := fun b o e => by
    have e' : (open Classical in if Mv ps fps b then none else H b) = some o := e
    split at e'
    · cases e'
    · exact e'
  have hN0 : ∀ b, H b = none → c.H0 b = none := fun b e => by
    show (open Classical in if Mv ps fps b then none else H b) = none
    split
    · rfl
    · exact e
  have hN1 : ∀ b, c.H0 b = none → H b = none ∨ Mv ps fps b := fun b e => by
    have e' : (open Classical in if Mv ps fps b then none else H b) = none := e
    split at e'
    · rename_i z; exact .inr z
    · exact .inl e'
  have hr : Rel K c O0 F H (L2.start N vs) fps (entry N.length args) := by
    refine ⟨A.sub, Same.refl _, fun b o e _ => hS b o e, fun b e => hN0 b e, fun b o e => .inl e, fun i d' hd => ?_, fun i q hq => ?_, A.nd, A.dj, fun i k hk => ?_, ?_⟩
    · have hi : args[i]? = some d' := by
        unfold entry at hd
        by_cases hi : i < args.length
        · rw [List.getElem?_append_left (by simpa using hi), List.getElem?_map] at hd
          cases z : args[i]? with
          | none => rw [z] at hd; cases hd
          | some x => rw [z] at hd; cases hd; rfl
        · rw [List.getElem?_append_right (by simpa using hi), List.getElem?_replicate] at hd
          split at hd <;> cases hd
      obtain ⟨v, hv, ow⟩ := A.ow i d' hi
      refine ⟨v, hst i v hv, ?_⟩
      have hl : i < ps.length := by rw [← A.la]; exact (List.getElem?_eq_some_iff.mp hi).1
      rw [List.getD_eq_getElem?_getD, hO0 i hl, ← List.getD_eq_getElem?_getD]
      exact ow
    · obtain ⟨h1, h2⟩ := A.off i q hq
      refine ⟨h1, h2, ?_⟩
      cases h3 : isPm ps[i]? with
      | true => exact .inr ⟨⟨i, hq, h3⟩, by rw [hO0 i (hpl i h3)]; exact h3⟩
      | false => exact .inl (show (open Classical in if Mv ps fps q then none else H q) = none from if_pos ⟨i, hq, h3⟩)
    · have hl : i < ps.length := (List.getElem?_eq_some_iff.mp hk).1
      refine ⟨by rw [hO0 i hl]; exact hk, ?_⟩
      have hv : i < vs.length := by rw [A.lv]; exact hl
      have e1 : vs[i]? = some (vs.getD i .non) := by rw [List.getD_eq_getElem?_getD, List.getElem?_eq_getElem hv]; rfl
      exact hst i _ e1
    · unfold L2.start entry
      rw [List.length_append, List.length_append, List.length_map, List.length_map, List.length_replicate, List.length_replicate, A.lv, A.la]
  refine (h c rfl rfl rfl rfl rfl).run hr _ ?_
  unfold fnD at q
  rw [if_pos A.la] at q
  have outB : ∀ {s : DS} {F' H' : Hp} {σ' : St} {fps' : Nat → List Addr} {O'' : List Kd} {as : List D}, (List.range ps.length).mapM (look s) = some as → Rel K c O'' F' H' σ' fps' s → OutB K ps F H F' H' vs fps fps' as := fun {s F' H' σ' fps' O'' as} has r' => by
      refine ⟨r'.base, r'.sub, fun b o hb hn => r'.keep b o (by show (open Classical in if Mv ps fps b then none else H b) = some o; rw [if_neg fun ⟨i, hi, _⟩ => hn i hi]; exact hb) (fun ⟨i, hi, _⟩ => hn i hi), fun b e => hN1 b (r'.live b e), fun b o e => (r'.new b o e).imp id (hN1 b), fun i k e he hae => ?_, fun i q' hi hq => ?_, r'.nd, r'.dj⟩
      · obtain ⟨j, hj, lk⟩ := mapM_get has hae
        have hij : j = i := by
          rw [List.getElem?_range] at hj
          · cases hj; rfl
          · exact (List.getElem?_eq_some_iff.mp he).1
        subst hij
        obtain ⟨u, hu, w⟩ := r'.slots j e (look_some lk)
        obtain ⟨p1, p2⟩ := r'.par j k he
        rw [p2] at hu
        cases hu
        have hv : j < vs.length := by rw [A.lv]; exact (List.getElem?_eq_some_iff.mp he).1
        have ev : vs[j]? = some (vs.getD j .non) := by rw [List.getD_eq_getElem?_getD, List.getElem?_eq_getElem hv]; rfl
        refine ⟨_, ev, ?_⟩
        rw [List.getD_eq_getElem?_getD, p1] at w
        exact w
      · obtain ⟨h1, h2, h3⟩ := r'.off i q' hq
        refine ⟨h1, h2, ?_⟩
        rcases h3 with h3 | ⟨⟨j, hj, _⟩, _⟩
        · rcases hN1 q' h3 with h | ⟨j, hj, _⟩
          · exact .inl h
          · exact .inr ⟨j, hj⟩
        · exact .inr ⟨j, hj⟩
  cases eb : b (entry N.length args) with
  | rt d' s =>
    rw [eb] at q
    dsimp only [leave] at q
    cases has : (List.range ps.length).mapM (look s) with
    | none => simp only [has] at q
    | some as =>
      simp only [has] at q
      exact fun F' H' σ' fps' O'' v fpv s' r' ow hf nd => q F' H' fps' v fpv ⟨outB has r', ow, fun q hq => ⟨(hf q hq).1, (hf q hq).2.1, hN1 q (hf q hq).2.2.1, (hf q hq).2.2.2⟩, nd⟩
  | ex x s =>
    rw [eb] at q
    dsimp only [leaveX] at q
    cases has : (List.range ps.length).mapM (look s) with
    | none => simp only [has] at q
    | some as =>
      simp only [has] at q
      exact fun F' H' σ' fps' O'' cls dd _ s' r' xo => q F' H' fps' cls dd (outB has r') xo
  | nx s =>
    rw [eb] at q
    dsimp only at q
    by_cases hk : rk = .sh
    · rw [if_pos hk] at q
      unfold leave at q
      cases has : (List.range ps.length).mapM (look s) with
      | none => simp only [has] at q
      | some as =>
        simp only [has] at q
        exact fun F' H' σ' fps' s' r' => q F' H' fps' _ [] ⟨outB has r', by rw [hk]; exact ⟨rfl, .non⟩, fun q hq => absurd hq (by simp), by simp⟩
    · rw [if_neg hk] at q; exact q.elim
  | bk s => rw [eb] at q; exact q.elim
  | ct s => rw [eb] at q; exact q.elim
  | no => rw [eb] at q; exact q.elim
theorem spD_len {f : FD} {vs : List V} {H : Hp} {Q : VK} {E : XK} (h : spD K mg f ps rk vs H Q E) : vs.length = ps.length := by
  obtain ⟨_, _, _, A, _⟩ := h
  exact A.lv
/-! ### calls -/
section
variable {c : Ctx} {O : List Kd} {F H F' H' : Hp} {σ : St} {fps fps' gps gps' : Nat → List Addr} {ds : DS} {args' : List D} {vs : List V} {v : V} {d : D} {fpv : List Addr}
/-- behind a call that changes nothing of one's own -/
theorem Rel.call0 (r : Rel K c O F H σ fps ds) (o : OutB K ps F H F' H' vs (fun _ => []) gps' args') : Rel K c O F' H' σ fps ds := by
  have hk : ∀ b u, H b = some u → H' b = some u := fun b u e => o.keep b u e (fun _ => by simp)
  have hF : ∀ q, F q = none → H q ≠ none → F' q = none := fun q h1 h2 => by
    cases z : F' q with
    | none => rfl
    | some u =>
      rcases o.new0 mv_nil q u z with h | h
      · rw [h1] at h; cases h
      · exact absurd h h2
  refine ⟨o.sub, r.base.trans o.ext, fun b u e n => hk b u (r.keep b u e n), fun b e => r.live b (o.live0 mv_nil b e), fun b u e => ?_, fun i e he => ?_, fun i q hq => ?_, r.nd, r.dj, r.par, r.len⟩
  · rcases o.new0 mv_nil b u e with h | h
    · exact r.new b u h
    · exact .inr (r.live b h)
  · obtain ⟨w, hw, ow⟩ := r.slots i e he
    refine ⟨w, hw, ow_mono o.ext ow fun q hq => ?_⟩
    cases z : H q with
    | none => exact absurd z (r.off i q hq).2.1
    | some u => exact hk q u z
  · obtain ⟨h1, h2, h3⟩ := r.off i q hq
    refine ⟨hF q h1 h2, fun z => h2 (o.live0 mv_nil q z), h3⟩
/-- behind a call that may change the thing in slot j -/
theorem Rel.call1 (r : Rel K c O F H σ fps ds) {j : Nat} {k : Kd} {w : V} {e e' : D} (o : OutB K (.pm k :: ps) F H F' H' (w :: vs) (fun i => if i = 0 then fps j else []) gps' (e' :: args'))
    (hj : ds[j]? = some (some e)) (hw : σ[j]? = some (some w)) (hk : O.getD j .sh = k ∨ O.getD j .sh = .pm k) : Rel K c O F' H' σ (fun i => if i = j then gps' 0 else fps i) (ds.set j (some e')) := by
  have hkp : ∀ b u, H b = some u → b ∉ fps j → H' b = some u := fun b u e hn => o.keep b u e (fun i => by
    by_cases z : i = 0
    · simp only [z, if_pos]; exact hn
    · simp only [if_neg z]; simp)
  have hF : ∀ q, F q = none → H q ≠ none → F' q = none := fun q h1 h2 => by
    cases z : F' q with
    | none => rfl
    | some u =>
      rcases o.new0 mv_one q u z with h | h
      · rw [h1] at h; cases h
      · exact absurd h h2
  have hl : j < ds.length := (List.getElem?_eq_some_iff.mp hj).1
  have hg : ∀ q, q ∈ gps' 0 → F' q = none ∧ H' q ≠ none ∧ (H q = none ∨ q ∈ fps j) := fun q hq => by
    obtain ⟨h1, h2, h3⟩ := o.off 0 q rfl hq
    refine ⟨h1, h2, ?_⟩
    rcases h3 with h3 | ⟨i, hi⟩
    · exact .inl h3
    · by_cases z : i = 0
      · simp only [z, if_pos] at hi; exact .inr hi
      · simp only [if_neg z] at hi; exact absurd hi (by simp)
  have hdj : ∀ i, i ≠ j → ∀ q, q ∈ gps' 0 → q ∉ fps i := fun i hi q hq hq' => by
    rcases (hg q hq).2.2 with h | h
    · exact (r.off i q hq').2.1 h
    · exact r.dj j i (Ne.symm hi) q h hq'
  refine ⟨o.sub, r.base.trans o.ext, fun b u e n => ?_, fun b e => r.live b (o.live0 mv_one b e), fun b u e => ?_, fun i x hx => ?_, fun i q hq => ?_, fun i => ?_, fun i l hil q hq hq' => ?_, r.par, by rw [List.length_set]; exact r.len⟩
  · refine hkp b u (r.keep b u e n) fun hb => ?_
    rcases (r.off j b hb).2.2 with h | ⟨h, _⟩
    · rw [h] at e; cases e
    · exact n h
  · rcases o.new0 mv_one b u e with h | h
    · exact r.new b u h
    · exact .inr (r.live b h)
  · by_cases z : i = j
    · subst z
      rw [List.getElem?_set_self hl] at hx
      cases hx
      obtain ⟨u, hu, ow⟩ := o.ow 0 k e' rfl rfl
      cases hu
      refine ⟨w, hw, ?_⟩
      simp only [if_pos]
      rcases hk with h | h
      · rw [h]; exact ow
      · rw [h]; exact ow
    · rw [List.getElem?_set_ne (Ne.symm z)] at hx
      obtain ⟨u, hu, ow⟩ := r.slots i x hx
      refine ⟨u, hu, ?_⟩
      simp only [if_neg z]
      refine ow_mono o.ext ow fun q hq => ?_
      cases y : H q with
      | none => exact absurd y (r.off i q hq).2.1
      | some u => exact hkp q u y fun hb => r.dj i j z q hq hb
  · by_cases z : i = j
    · subst z
      simp only [if_pos] at hq
      obtain ⟨h1, h2, h3⟩ := hg q hq
      refine ⟨h1, h2, ?_⟩
      rcases h3 with h3 | h3
      · exact .inl (r.live q h3)
      · exact (r.off i q h3).2.2
    · simp only [if_neg z] at hq
      obtain ⟨h1, h2, h3⟩ := r.off i q hq
      exact ⟨hF q h1 h2, fun y => h2 (o.live0 mv_one q y), h3⟩
  · by_cases z : i = j
    · simp only [z, if_pos]; exact o.nd 0
    · simp only [if_neg z]; exact r.nd i
  · by_cases z : i = j
    · by_cases z' : l = j
      · exact hil (z.trans z'.symm)
      · simp only [z, if_pos] at hq
        simp only [if_neg z'] at hq'
        exact hdj l z' q hq hq'
    · simp only [if_neg z] at hq
      by_cases z' : l = j
      · simp only [z', if_pos] at hq'
        exact hdj i z q hq' hq
      · simp only [if_neg z'] at hq'
        exact r.dj i l hil q hq hq'
theorem args_sh {es : List D} (hs : ps.all (· == .sh) = true) (sF : Same F H) (al : DpAll K F vs es) (hl : es.length = ps.length) : ArgR K ps F H vs (fun _ => []) es := by
  refine ⟨(dpa_len al).trans hl, hl, sF, fun i d' hd => ?_, fun i q hq => absurd hq (by simp), fun _ => by simp, fun _ _ _ _ hq => absurd hq (by simp)⟩
  obtain ⟨u, hu, dp⟩ := dpa_get al hd
  have : ps.getD i .sh = .sh := by
    rw [List.getD_eq_getElem?_getD]
    cases z : ps[i]? with
    | none => rfl
    | some k =>
      have := List.all_eq_true.mp hs k (List.mem_of_getElem? z)
      simpa using this
  exact ⟨u, hu, by rw [this]; exact ⟨rfl, dp⟩⟩
theorem args_o {es : List D} {k : Kd} {w : V} {e : D} {fp : List Addr} (hs : ps.all (· == .sh) = true) (sF : Same F H) (al : DpAll K F vs es) (hl : es.length = ps.length) (ow : Ow K F H k w e fp) (hf : ∀ q ∈ fp, F q = none ∧ H q ≠ none) (nd : fp.Nodup) :
    ArgR K (.pm k :: ps) F H (w :: vs) (fun i => if i = 0 then fp else []) (e :: es) := by
  have A := args_sh hs sF al hl
  refine ⟨by simp only [List.length_cons, A.lv], by simp only [List.length_cons, hl], sF, fun i d' hd => ?_, fun i q hq => ?_, fun i => ?_, fun i j hij q hq hq' => ?_⟩
  · cases i with
    | zero => cases hd; exact ⟨w, rfl, ow⟩
    | succ i =>
      obtain ⟨u, hu, o⟩ := A.ow i d' (by simpa using hd)
      exact ⟨u, by simpa using hu, by simpa using o⟩
  · by_cases z : i = 0
    · subst z
      simp only [if_pos] at hq
      exact hf q hq
    · simp only [if_neg z] at hq
      exact absurd hq (by simp)
  · by_cases z : i = 0
    · simp only [z, if_pos]; exact nd
    · simp only [if_neg z]; simp
  · by_cases z : i = 0
    · by_cases z' : j = 0
      · exact hij (z.trans z'.symm)
      · simp only [if_neg z'] at hq'
        exact absurd hq' (by simp)
    · simp only [if_neg z] at hq
      exact absurd hq (by simp)
end
def mCall (f : FD) (n : Nat) (ml : M (List D)) : M D := bnd ml fun xs => fun s => if xs.length = n then (match f xs with
  | .ok d _ => .ok d s
  | _ => .no) else .no
def mCall1 (f : FD) (n j : Nat) (ml : M (List D)) : M D := fun s => match s[j]? with
  | some (some _) => bnd ml (fun xs => fun s' => match s'[j]? with
    | some (some e) => if xs.length = n then (match f (e :: xs) with
      | .ok d (e' :: _) => .ok d (s'.set j (some e'))
      | _ => .no) else .no
    | _ => .no) s
  | _ => .no
def mCallT (f : FD) (n : Nat) (m0 : M D) (ml : M (List D)) : M D := bnd m0 fun e => bnd ml fun xs => fun s => if xs.length = n then (match f (e :: xs) with
  | .ok d (_ :: _) => .ok d s
  | _ => .no) else .no
section
variable {c : Ctx} {O : List Kd} {tl : TA} {ml : M (List D)} {f : FD} {E : XK} {te : TE} {m : M D}
theorem o_call (h : DA K c O tl ml) (hs : ps.all (· == .sh) = true := by rfl) : DO K c O rk (tCall (spD K mg f ps rk) [] E tl) (mCall f ps.length ml) := ⟨fun {F H σ fps ds ds' d} r e Q q => by
  obtain ⟨xs, s1, e1, g1⟩ := bnd_ok e
  split at g1
  · rename_i hl
    split at g1
    · rename_i d0 as hf
      cases g1
      refine h.run r e1 _ fun F1 H1 fps1 vs sF r1 al => ?_
      rw [List.append_nil]
      refine spD_ok (args_sh hs r1.sub al hl) hf fun F' H' fps' v fpv o => ?_
      refine q F' H' fps1 v fpv (sF.trans o.ext) (r1.call0 o.toOutB) o.res (fun q hq => ?_) o.rnd
      obtain ⟨h1, h2, h3, h4⟩ := o.roff0 mv_nil q hq
      exact ⟨h1, h2, r1.live q h3, fun i hi => (r1.off i q hi).2.1 h3⟩
    · cases g1
  · cases g1⟩
theorem o_call1 (j : Nat) {k : Kd} (h : DA K c O tl ml) (hk : O.getD j .sh = k ∨ O.getD j .sh = .pm k) (hs : ps.all (· == .sh) = true := by rfl) : DO K c O rk (tCall (spD K mg f (.pm k :: ps) rk) [] E (tCons (tVar j) tl)) (mCall1 f ps.length j ml) := ⟨fun {F H σ fps ds ds' d} r e Q q => by
  unfold mCall1 at e
  split at e
  · rename_i e0 he0
    obtain ⟨xs, s1, e1, g1⟩ := bnd_ok e
    obtain ⟨w, hw, _⟩ := r.slots j _ he0
    refine ⟨w, hw, ?_⟩
    split at g1
    · rename_i e2 he2
      split at g1
      · rename_i hl
        split at g1
        · rename_i d0 e' as hf
          cases g1
          refine h.run r e1 _ fun F1 H1 fps1 vs sF r1 al => ?_
          show spD K mg f (k.pm :: ps) rk ((w :: vs) ++ []) H1 Q E
          rw [List.append_nil]
          obtain ⟨w1, hw1, ow⟩ := r1.slots j _ he2
          rw [hw] at hw1
          cases hw1
          have ow' : Ow K F1 H1 k w e2 (fps1 j) := by
            rcases hk with h | h
            · rw [h] at ow; exact ow
            · rw [h] at ow; exact ow
          refine spD_ok (args_o hs r1.sub al hl ow' (fun q hq => ⟨(r1.off j q hq).1, (r1.off j q hq).2.1⟩) (r1.nd j)) hf fun F' H' fps' v fpv o => ?_
          refine q F' H' _ v fpv (sF.trans o.ext) (r1.call1 o.toOutB he2 hw hk) o.res (fun q hq => ?_) o.rnd
          obtain ⟨h1, h2, h3, h4⟩ := o.roff0 mv_one q hq
          refine ⟨h1, h2, r1.live q h3, fun i hi => ?_⟩
          by_cases z : i = j
          · simp only [z, if_pos] at hi
            exact h4 0 rfl hi
          · simp only [if_neg z] at hi
            exact (r1.off i q hi).2.1 h3
        · cases g1
      · cases g1
    · cases g1
  · cases e⟩
/-- what was made for one's own is read alone -/
theorem DO.e (h : DO K c O (.ls .sh) te m) : DE K c O te m := ⟨fun {F H σ fps ds ds' d} r e Q q => by
  refine h.run r e _ fun F1 H1 fps1 v fpv sF r1 ow hf nd => ?_
  obtain ⟨p, xs, es, rfl, rfl, hp, rfl, al⟩ := ow_ls rfl ow
  obtain ⟨h1, h2, h3, h4⟩ := hf p (by simp)
  have s2 : Same F1 (upd F1 p (.lst xs)) := same_upd h1
  refine q (upd F1 p (.lst xs)) H1 fps1 _ (sF.trans s2) ⟨fun b o e => ?_, r1.base.trans s2, r1.keep, r1.live, fun b o e => ?_, fun i d hd => ?_, fun i q hq => ?_, r1.nd, r1.dj, r1.par, r1.len⟩ (frz_sh hp al h1)
  · by_cases hb : b = p
    · subst hb; rw [upd_same] at e; rw [hp]; exact e
    · rw [upd_ne hb] at e; exact r1.sub b o e
  · by_cases hb : b = p
    · subst hb; exact .inr h3
    · rw [upd_ne hb] at e; exact r1.new b o e
  · obtain ⟨u, hu, w⟩ := r1.slots i d hd
    exact ⟨u, hu, ow_mono s2 w fun _ _ => rfl⟩
  · have hb : q ≠ p := fun z => by subst z; exact h4 i hq
    rw [upd_ne hb]
    exact r1.off i q hq⟩
theorem DO.sh (h : DO K c O .sh te m) : DE K c O te m := ⟨fun {F H σ fps ds ds' d} r e Q q => h.run r e _ fun F1 H1 fps1 v fpv sF r1 ow hf nd => q F1 H1 fps1 v sF r1 ow.2⟩
/-- the same, seen from here on: all that is no slot's own stays -/
noncomputable def Ctx.from (c : Ctx) (O : List Kd) (F H : Hp) (fps : Nat → List Addr) : Ctx where
  F0 := F
  H0 := fun b => open Classical in if ∃ i, b ∈ fps i ∧ isPm O[i]? = false then none else H b
  own := fun b => ∃ i, b ∈ fps i ∧ isPm O[i]? = true
  ps := c.ps
  rk := c.rk
  arg := c.arg
  mg := c.mg
  W := c.W
  Ox := c.Ox
section
variable {F1 H1 F2 H2 : Hp} {σ : St} {fps1 fps2 : Nat → List Addr} {ds1 ds2 : DS}
theorem from_none {b : Addr} (h : (c.from O F1 H1 fps1).H0 b = none) : (∃ i, b ∈ fps1 i ∧ isPm O[i]? = false) ∨ H1 b = none := by
  by_cases z : ∃ i, b ∈ fps1 i ∧ isPm O[i]? = false
  · exact .inl z
  · right
    have : (c.from O F1 H1 fps1).H0 b = H1 b := if_neg z
    rw [← this]; exact h
theorem from_some {b : Addr} (h : ¬ ∃ i, b ∈ fps1 i ∧ isPm O[i]? = false) : (c.from O F1 H1 fps1).H0 b = H1 b := if_neg h
theorem Rel.focus (r : Rel K c O F1 H1 σ fps1 ds1) : Rel K (c.from O F1 H1 fps1) O F1 H1 σ fps1 ds1 := by
  refine ⟨r.sub, Same.refl _, fun b o e _ => ?_, fun b e => ?_, fun b o e => .inl e, r.slots, fun i q hq => ?_, r.nd, r.dj, r.par, r.len⟩
  · by_cases z : ∃ i, b ∈ fps1 i ∧ isPm O[i]? = false
    · have : (c.from O F1 H1 fps1).H0 b = none := if_pos z
      rw [this] at e; cases e
    · rw [from_some z] at e; exact e
  · by_cases z : ∃ i, b ∈ fps1 i ∧ isPm O[i]? = false
    · exact if_pos z
    · rw [from_some z]; exact e
  · obtain ⟨h1, h2, _⟩ := r.off i q hq
    refine ⟨h1, h2, ?_⟩
    cases z : isPm O[i]? with
    | true => exact .inr ⟨⟨i, hq, z⟩, rfl⟩
    | false => exact .inl (if_pos ⟨i, hq, z⟩)
theorem Rel.unfocus (r : Rel K c O F1 H1 σ fps1 ds1) (r2 : Rel K (c.from O F1 H1 fps1) O F2 H2 σ fps2 ds2) : Rel K c O F2 H2 σ fps2 ds2 := by
  have hn : ∀ b, (c.from O F1 H1 fps1).H0 b = none → c.H0 b = none := fun b h => by
    rcases from_none h with ⟨i, hi, hp⟩ | h
    · rcases (r.off i b hi).2.2 with h | ⟨_, h⟩
      · exact h
      · rw [hp] at h; cases h
    · exact r.live b h
  refine ⟨r2.sub, r.base.trans r2.base, fun b o e n => ?_, fun b e => hn b (r2.live b e), fun b o e => ?_, r2.slots, fun i q hq => ?_, r2.nd, r2.dj, r.par, r2.len⟩
  · have hb : ∀ i, b ∉ fps1 i := fun i hi => by
      rcases (r.off i b hi).2.2 with h | ⟨h, _⟩
      · rw [h] at e; cases e
      · exact n h
    refine r2.keep b o ?_ (fun ⟨i, hi, _⟩ => hb i hi)
    rw [from_some (fun ⟨i, hi, _⟩ => hb i hi)]
    exact r.keep b o e n
  · rcases r2.new b o e with h | h
    · exact r.new b o h
    · exact .inr (hn b h)
  · obtain ⟨h1, h2, h3⟩ := r2.off i q hq
    refine ⟨h1, h2, ?_⟩
    rcases h3 with h3 | ⟨⟨j, hj, _⟩, h3⟩
    · exact .inl (hn q h3)
    · rcases (r.off j q hj).2.2 with h | ⟨h, _⟩
      · exact .inl h
      · exact .inr ⟨h, h3⟩
end
/-- f(new, ..): what is made for the call alone -/
theorem o_callT {k : Kd} (h0 : DO K c O k te m) (h : ∀ c' : Ctx, DA K c' O tl ml) (hs : ps.all (· == .sh) = true := by rfl) : DO K c O rk (tCall (spD K mg f (.pm k :: ps) rk) [] E (tCons te tl)) (mCallT f ps.length m ml) := ⟨fun {F H σ fps ds ds' d} r e Q q => by
  obtain ⟨e0, s0, e1, g0⟩ := bnd_ok e
  obtain ⟨xs, s1, e2, g1⟩ := bnd_ok g0
  refine h0.run r e1 _ fun F1 H1 fps1 w fpw sF r1 ow hf nd => ?_
  split at g1
  · rename_i hl
    split at g1
    · rename_i d0 e' as hff
      cases g1
      refine (h (c.from O F1 H1 fps1)).run r1.focus e2 _ fun F2 H2 fps2 vs sF2 r2' al => ?_
      have r2 := r1.unfocus r2'
      show spD K mg f (k.pm :: ps) rk ((w :: vs) ++ []) H2 Q E
      rw [List.append_nil]
      have hH : ∀ q ∈ fpw, (c.from O F1 H1 fps1).H0 q = H1 q := fun q hq => from_some fun ⟨i, hi, _⟩ => (hf q hq).2.2.2 i hi
      have hs2 : ∀ q ∈ fpw, H2 q = H1 q := fun q hq => by
        cases z : H1 q with
        | none => exact absurd z (hf q hq).2.1
        | some o => exact r2'.keep q o (by rw [hH q hq]; exact z) fun ⟨i, hi, _⟩ => (hf q hq).2.2.2 i hi
      have hF2 : ∀ q ∈ fpw, F2 q = none := fun q hq => by
        cases z : F2 q with
        | none => rfl
        | some o =>
          rcases r2'.new q o z with h | h
          · have h' : F1 q = some o := h
            rw [(hf q hq).1] at h'; cases h'
          · rw [hH q hq] at h; exact absurd h (hf q hq).2.1
      have hd2 : ∀ q ∈ fpw, ∀ i, q ∉ fps2 i := fun q hq i hi => by
        rcases (r2'.off i q hi).2.2 with h | ⟨⟨j, hj, _⟩, _⟩
        · rw [hH q hq] at h; exact (hf q hq).2.1 h
        · exact (hf q hq).2.2.2 j hj
      have ow2 : Ow K F2 H2 k w e0 fpw := ow_mono sF2 ow hs2
      refine spD_ok (args_o hs r2.sub al hl ow2 (fun q hq => ⟨hF2 q hq, by rw [hs2 q hq]; exact (hf q hq).2.1⟩) nd) hff fun F' H' fps' v fpv o => ?_
      have hkp : ∀ b u, H2 b = some u → b ∉ fpw → H' b = some u := fun b u e hn => o.keep b u e (fun i => by
        by_cases z : i = 0
        · simp only [z, if_pos]; exact hn
        · simp only [if_neg z]; simp)
      have r3 : Rel K c O F' H' σ fps2 ds' := by
        refine ⟨o.sub, r2.base.trans o.ext, fun b u e n => ?_, fun b e => r2.live b (o.live0 mv_one b e), fun b u e => ?_, fun i x hx => ?_, fun i q hq => ?_, r2.nd, r2.dj, r2.par, r2.len⟩
        · refine hkp b u (r2.keep b u e n) fun hb => ?_
          rw [(hf b hb).2.2.1] at e; cases e
        · rcases o.new0 mv_one b u e with h | h
          · exact r2.new b u h
          · exact .inr (r2.live b h)
        · obtain ⟨u, hu, ow⟩ := r2.slots i x hx
          refine ⟨u, hu, ow_mono o.ext ow fun q hq => ?_⟩
          cases y : H2 q with
          | none => exact absurd y (r2.off i q hq).2.1
          | some u => exact hkp q u y fun hb => hd2 q hb i hq
        · obtain ⟨h1, h2, h3⟩ := r2.off i q hq
          refine ⟨?_, fun y => h2 (o.live0 mv_one q y), h3⟩
          cases z : F' q with
          | none => rfl
          | some u =>
            rcases o.new0 mv_one q u z with h | h
            · rw [h1] at h; cases h
            · exact absurd h h2
      refine q F' H' fps2 v fpv ((sF.trans sF2).trans o.ext) r3 o.res (fun q hq => ?_) o.rnd
      obtain ⟨h1, h2, h3, h4⟩ := o.roff0 mv_one q hq
      exact ⟨h1, h2, r2.live q h3, fun i hi => (r2.off i q hi).2.1 h3⟩
    · cases g1
  · cases g1⟩
end
end
end Z
set_option Elab.async false
set_option linter.all false
set_option maxRecDepth 100000
namespace Z
open PySem L2
/-! ### more operations -/
theorem Vw.tupF {K : Fg} {F H : Hp} {v : V} {ds : List D} (h : Vw K F H v (.tuple ds)) : Dp K F v (.tuple ds) := by
  rcases h with h | ⟨_, _, _, _, z, _⟩
  · exact h
  · cases z
/-- list + list, whatever the lists are -/
def rCatL (K : Fg) : R2 := fun x y H Q => ∃ l b xs zs, x = .ref l ∧ y = .ref b ∧ SqL K H l xs ∧ SqL K H b zs ∧ xs.length + zs.length ≤ sizeLine ∧ ∀ p, H p = none → Q (.ref p) (upd H p (.lst (xs ++ zs)))
theorem op_catL {X : Cx} : OpR X (binaryOp .Add) (rCatL X.K) := by
  intro pins s σ H x y v u Q I rx ry h
  obtain ⟨l, b, xs, zs, rfl, rfl, hH, hB, hz, q⟩ := h
  cases rx
  cases ry
  obtain ⟨its, r, ⟨o1, n1, e1, c1, d1, s1⟩, z1⟩ := I.list hH
  obtain ⟨its2, r2, ⟨o2, n2, e2, c2, d2, s2⟩, z2⟩ := I.list hB
  obtain ⟨cls, dd, data, sl⟩ := o1
  obtain ⟨cls2, dd2, data2, sl2⟩ := o2
  simp only at c1 d1 s1 c2 d2 s2
  subst c1 d1 s1 c2 d2 s2
  have ea : its.toArray ++ its2.toArray = (its ++ its2).toArray := by simp
  refine PySem.concat_meets ⟨_, e1, rfl⟩ ⟨_, e2, rfl⟩ PySem.noFill_list_add PySem.seq_list_add PySem.F.slot_list_add PySem.F.entry_list_add (PySem.F.args_list_add_2 _ _) (PyProof.Rows.list_addW l b its.toArray its2.toArray n1 n2 none none sl sl2 (by rw [List.size_toArray, List.size_toArray, ← r.length, ← r2.length]; exact hz)) ⟨e1, e2, ?_⟩
  rw [ea]
  exact ⟨.ref _, _, I.lnew (t' := s.toks) (r.append r2) (by rw [List.length_append]; exact hz), rfl, q _ I.fresh⟩
section
variable {K : Fg}
def rAddU (K : Fg) : R2 := fun x y H Q => (rI0 (fun i j => .int (i + j))) x y H Q ∨ (fun x y H Q => (fun x y H Q => ∃ i j, x = V.str i ∧ y = V.str j ∧ i.length + j.length ≤ sizeLine ∧ Q (V.str (i ++ j)) H) x y H Q ∨ (fun x y H Q => rCatL K x y H Q ∨ rCatA K x y H Q) x y H Q) x y H Q
theorem op_addU {X : Cx} : OpR X (binaryOp .Add) (rAddU X.K) := op_add.or (op_add_str.or (op_catL.or op_catA))
def addD : D → D → Option D
  | .int i, .int j => some (.int (i + j))
  | .str x, .str y => if fits (x.length + y.length) then some (.str (x ++ y)) else none
  | .list xs, .list ys => if fits (xs.length + ys.length) then some (.list (xs ++ ys)) else none
  | .tuple xs, .tuple ys => if fits (xs.length + ys.length) then some (.tuple (xs ++ ys)) else none
  | _, _ => none
theorem g_add : OpG K (rAddU K) addD := fun F H x y dx dy d sF vx vy e Q q => by
  unfold addD at e
  split at e
  · cases e
    rw [vx.int, vy.int]
    exact .inl ⟨_, _, rfl, rfl, q F H _ .refl (.int _)⟩
  · split at e
    · rename_i hf
      cases e
      rw [vx.str, vy.str]
      exact .inr (.inl ⟨_, _, rfl, rfl, fits_of hf, q F H _ .refl (.str _)⟩)
    · cases e
  · split at e
    · rename_i hf
      cases e
      obtain ⟨p, xs, rfl, s1, a1⟩ := vx.lst sF
      obtain ⟨p2, xs2, rfl, s2, a2⟩ := vy.lst sF
      refine .inr (.inr (.inl ⟨p, p2, xs, xs2, rfl, rfl, s1, s2, by rw [dpa_len a1, dpa_len a2]; exact fits_of hf, fun r hr => ?_⟩))
      have hF := sF.free hr
      exact q _ _ _ (.new _ hr) (.lst (SqL.of upd_same) (dpa_mono (same_upd hF) (dpa_append a1 a2)))
    · cases e
  · split at e
    · rename_i hf
      cases e
      obtain ⟨p, xs, rfl, s1, a1⟩ := vx.tup sF
      obtain ⟨p2, xs2, rfl, s2, a2⟩ := vy.tup sF
      have k1 := vx.tupF
      have k2 := vy.tupF
      refine .inr (.inr (.inr ⟨p, p2, xs, xs2, rfl, rfl, s1, s2, by rw [dpa_len a1, dpa_len a2]; exact fits_of hf, fun h => ?_, fun _ h => ?_, fun _ _ r hr => ?_⟩))
      · subst h
        cases a1
        exact q F H _ .refl k2
      · subst h
        cases a2
        rw [List.append_nil] at q
        exact q F H _ .refl k1
      · have hF := sF.free hr
        exact q _ _ _ (.new _ hr) (.tup (SqT.of upd_same) (dpa_mono (same_upd hF) (dpa_append a1 a2)))
    · cases e
  · cases e
/-- is None, is not None -/
def nonB : D → Bool
  | .none => true
  | _ => false
def isN : D → D → Option D
  | x, .none => some (.bool (nonB x))
  | _, _ => none
def notN : D → D → Option D
  | x, .none => some (.bool (!nonB x))
  | _, _ => none
theorem vw_non {F H : Hp} {x : V} {d : D} (h : Vw K F H x d) : decide (x = .non) = nonB d := by
  rcases h with h | ⟨p, xs, ds, rfl, rfl, _, _⟩
  · cases h <;> simp [nonB]
  · simp [nonB]
theorem g_isN : OpG K (fun x y H Q => y = .non ∧ Q (.bl (decide (x = .non))) H) isN := fun F H x y dx dy d sF vx vy e Q q => by
  unfold isN at e
  split at e
  · cases e
    refine ⟨vy.non, ?_⟩
    rw [vw_non vx]
    exact q F H _ .refl (.bl _)
  · cases e
theorem g_notN : OpG K (fun x y H Q => y = .non ∧ Q (.bl (!decide (x = .non))) H) notN := fun F H x y dx dy d sF vx vy e Q q => by
  unfold notN at e
  split at e
  · cases e
    refine ⟨vy.non, ?_⟩
    rw [vw_non vx]
    exact q F H _ .refl (.bl _)
  · cases e
/-! ### built-in calls -/
def lenD : List D → Option D
  | [.list xs] => some (.int xs.length)
  | [.tuple xs] => some (.int xs.length)
  | [.str x] => if fits x.length then some (.int x.length) else none
  | _ => none
theorem g_len : CaG K (fun xs H Q => ∃ x n, xs = [x] ∧ LenV K x H n ∧ Q (.int n) H) lenD := fun F H xs es d sF va e Q q => by
  unfold lenD at e
  split at e
  · cases e
    cases va with
    | cons h t =>
      cases t
      obtain ⟨p, xs, rfl, s1, a1⟩ := h.lst sF
      exact ⟨_, _, rfl, .inl ⟨xs, s1, rfl⟩, by rw [dpa_len a1]; exact q F H _ .refl (.int _)⟩
  · cases e
    cases va with
    | cons h t =>
      cases t
      obtain ⟨p, xs, rfl, s1, a1⟩ := h.tup sF
      exact ⟨_, _, rfl, .inr ⟨xs, s1, rfl⟩, by rw [dpa_len a1]; exact q F H _ .refl (.int _)⟩
  · split at e
    · rename_i hf
      cases e
      cases va with
      | cons h t =>
        cases t
        rw [h.str]
        exact ⟨_, _, rfl, ⟨fits_of hf, rfl⟩, q F H _ .refl (.int _)⟩
    · cases e
  · cases e
def absD : List D → Option D
  | [.int i] => some (.int (if i < 0 then -i else i))
  | _ => none
theorem g_abs : CaG K (fun xs H Q => ∃ i, xs = [.int i] ∧ Q (.int (if i < 0 then -i else i)) H) absD := fun F H xs es d sF va e Q q => by
  unfold absD at e
  split at e
  · cases e
    cases va with
    | cons h t =>
      cases t
      rw [h.int]
      exact ⟨_, rfl, q F H _ .refl (.int _)⟩
  · cases e
def maxD : List D → Option D
  | [.int i, .int j] => some (.int (if j > i then j else i))
  | _ => none
theorem g_max : CaG K (fun xs H Q => ∃ i j, xs = [.int i, .int j] ∧ Q (.int (if j > i then j else i)) H) maxD := fun F H xs es d sF va e Q q => by
  unfold maxD at e
  split at e
  · cases e
    cases va with
    | cons h t =>
      cases t with
      | cons h2 t2 =>
        cases t2
        rw [h.int, h2.int]
        exact ⟨_, _, rfl, q F H _ .refl (.int _)⟩
  · cases e
def minD : List D → Option D
  | [.int i, .int j] => some (.int (if j < i then j else i))
  | _ => none
theorem g_min : CaG K (fun xs H Q => ∃ i j, xs = [.int i, .int j] ∧ Q (.int (if j < i then j else i)) H) minD := fun F H xs es d sF va e Q q => by
  unfold minD at e
  split at e
  · cases e
    cases va with
    | cons h t =>
      cases t with
      | cons h2 t2 =>
        cases t2
        rw [h.int, h2.int]
        exact ⟨_, _, rfl, q F H _ .refl (.int _)⟩
  · cases e
def intD : List D → Option D
  | [.int i] => some (.int i)
  | [.bool k] => some (.int (if k then 1 else 0))
  | _ => none
theorem g_toint : CaG K (fun xs H Q => (∃ i, xs = [.int i] ∧ Q (.int i) H) ∨ ∃ k, xs = [.bl k] ∧ Q (.int (if k then 1 else 0)) H) intD := fun F H xs es d sF va e Q q => by
  unfold intD at e
  split at e
  · cases e
    cases va with
    | cons h t =>
      cases t
      rw [h.int]
      exact .inl ⟨_, rfl, q F H _ .refl (.int _)⟩
  · cases e
    cases va with
    | cons h t =>
      cases t
      rw [h.bl]
      exact .inr ⟨_, rfl, q F H _ .refl (.int _)⟩
  · cases e
def listD : List D → Option D
  | [.list xs] => some (.list xs)
  | [.tuple xs] => some (.list xs)
  | _ => none
abbrev rListOf (K : Fg) : List V → Hp → VK → Prop := fun xs H Q => ∃ p ys, xs = [.ref p] ∧ (SqL K H p ys ∨ SqT K H p ys) ∧ ∀ l, H l = none → Q (.ref l) (upd H l (.lst ys))
theorem g_list : CaG K (rListOf K) listD := fun F H xs es d sF va e Q q => by
  have go : ∀ {p : Addr} {xs : List V} {ds : List D}, DpAll K F xs ds → ∀ l, H l = none → (d = .list ds) → Q (.ref l) (upd H l (.lst xs)) := fun {p xs ds} al l hl z => by
    subst z
    exact q _ _ _ (.new _ hl) (.lst (SqL.of upd_same) (dpa_mono (same_upd (sF.free hl)) al))
  unfold listD at e
  split at e
  · cases e
    cases va with
    | cons h t =>
      cases t
      obtain ⟨p, xs, rfl, s1, a1⟩ := h.lst sF
      exact ⟨p, xs, rfl, .inl s1, fun l hl => go (p := p) a1 l hl rfl⟩
  · cases e
    cases va with
    | cons h t =>
      cases t
      obtain ⟨p, xs, rfl, s1, a1⟩ := h.tup sF
      exact ⟨p, xs, rfl, .inr s1, fun l hl => go (p := p) a1 l hl rfl⟩
  · cases e
def tupleD : List D → Option D
  | [.list xs] => some (.tuple xs)
  | [.tuple xs] => some (.tuple xs)
  | _ => none
theorem g_tuple : CaG K (fun xs H Q => ∃ p ys, xs = [.ref p] ∧ ((SqL K H p ys ∧ ∀ l, H l = none → Q (.ref l) (upd H l (.tup ys))) ∨ (SqT K H p ys ∧ Q (.ref p) H))) tupleD := fun F H xs es d sF va e Q q => by
  unfold tupleD at e
  split at e
  · cases e
    cases va with
    | cons h t =>
      cases t
      obtain ⟨p, xs, rfl, s1, a1⟩ := h.lst sF
      exact ⟨p, xs, rfl, .inl ⟨s1, fun l hl => q _ _ _ (.new _ hl) (.tup (SqT.of upd_same) (dpa_mono (same_upd (sF.free hl)) a1))⟩⟩
  · cases e
    cases va with
    | cons h t =>
      cases t
      obtain ⟨p, xs, rfl, s1, a1⟩ := h.tup sF
      have k1 := h.tupF
      exact ⟨p, xs, rfl, .inr ⟨s1, q F H _ .refl k1⟩⟩
  · cases e
/-- isinstance -/
def tyD : D → String
  | .none => "NoneType"
  | .bool _ => "bool"
  | .int _ => "int"
  | .str _ => "str"
  | .list _ => "list"
  | .tuple _ => "tuple"
  | .dict _ => "dict"
def isiB (T : String) : D → Bool
  | .none => false
  | .bool _ => T == "bool" || T == "int"
  | .int _ => T == "int"
  | .str _ => T == "str"
  | .list _ => T == "list"
  | .tuple _ => T == "tuple"
  | .dict _ => T == "dict"
theorem dp_ty {H : Hp} {v : V} {d : D} (h : Dp K H v d) : TyX K H v (.type (tyD d)) := by
  cases h with
  | non => exact .base .non
  | bl b => exact .base (.bl b)
  | int i => exact .base (.int i)
  | str x => exact .base (.str x)
  | lst h _ =>
    rcases h with (h | ⟨o, h⟩) | ⟨o, _, _, h1, h2, _⟩
    · exact .base (.lst h)
    · exact .base (.frz h)
    · exact .kList h1 h2
  | tup h _ =>
    rcases h with (h | ⟨o, h⟩) | ⟨o, _, _, h1, h2, _⟩
    · exact .base (.tup h)
    · exact .fTuple h
    · exact .kTuple h1 h2
end
def okTy (T : String) : Bool := T == "int" || T == "bool" || T == "str" || T == "list" || T == "tuple"
theorem kit_all (T : String) (h : okTy T = true) (d : D) : kitB (tyD d) T = some (isiB T d) := by
  have hT : T = "int" ∨ T = "bool" ∨ T = "str" ∨ T = "list" ∨ T = "tuple" := by
    simp only [okTy, Bool.or_eq_true, beq_iff_eq] at h
    rcases h with (((h | h) | h) | h) | h
    · exact .inl h
    · exact .inr (.inl h)
    · exact .inr (.inr (.inl h))
    · exact .inr (.inr (.inr (.inl h)))
    · exact .inr (.inr (.inr (.inr h)))
  rcases hT with rfl | rfl | rfl | rfl | rfl <;> cases d <;> simp only [tyD, isiB] <;> decide +kernel
section
variable {K : Fg} {c : Ctx} {O : List Kd} {ta te : TE} {b1 : M BR} {m : M D}
theorem d_isi (T : String) (h : DB K c O ta b1) (hT : okTy T = true := by rfl) : DE K c O (tCB (rIsi K) (tCons ta (tCons (tC (.ty T)) tNil))) (mUn (fun d => some (.bool (isiB T d))) b1) := ⟨fun {F H σ fps ds ds' d} rl e Q q => by
  obtain ⟨x, s1, e1, g2⟩ := bnd_ok e
  refine h.run rl e1 _ fun F1 H1 fps1 v sF r1 bv => ?_
  split at g2
  · rename_i dx hx
    obtain ⟨g3, z⟩ := opt_ok g2
    subst z
    cases g3
    have dp := (Bm.vw r1 bv hx).dp r1.sub
    exact ⟨v, .ty T, _, _, isiB T dx, rfl, .ty T, dp_ty dp, kit_ty (kit_all T hT dx), q F1 H1 fps1 _ sF r1 (.bl _)⟩
  · cases g2⟩
/-! ### slices -/
structure DP (K : Fg) (c : Ctx) (O : List Kd) (t : TO) (m : M (Option Int)) : Prop where
  run : ∀ {F H : Hp} {σ : St} {fps : Nat → List Addr} {ds ds' : DS} {o : Option Int}, Rel K c O F H σ fps ds → m ds = .ok o ds' → ∀ Q : Option Int → Hp → Prop,
    (∀ F' H' fps', Same F F' → Rel K c O F' H' σ fps' ds' → Q o H') → t σ H Q
def mP0 : M (Option Int) := fun s => .ok none s
def mP1 (m : M D) : M (Option Int) := bnd m fun d => opt (match d with | .int i => some (some i) | _ => none)
theorem p_none : DP K c O tNoPart mP0 := ⟨fun r e Q q => by cases e; exact q _ _ _ (Same.refl _) r⟩
theorem p_some (h : DE K c O te m) : DP K c O (tPart te) (mP1 m) := ⟨fun {F H σ fps ds ds' o} r e Q q => by
  obtain ⟨d, s1, e1, g1⟩ := bnd_ok e
  obtain ⟨g2, z⟩ := opt_ok g1
  subst z
  refine h.run r e1 _ fun F1 H1 fps1 v sF r1 dp => ?_
  split at g2
  · cases g2; cases dp; exact ⟨_, rfl, q F1 H1 fps1 sF r1⟩
  · cases g2⟩
def rSlU (K : Fg) : V → Option Int → Option Int → Hp → VK → Prop := fun x lo hi H Q => rSlL K x lo hi H Q ∨ (fun x lo hi H Q => rSlA K x lo hi H Q ∨ rSlS x lo hi H Q) x lo hi H Q
theorem sl_U {X : Cx} : SlR X (rSlU X.K) := sl_list.or (sl_tupA.or sl_str)
def cutD (xs : List D) (lo hi : Option Int) : List D := (xs.drop (HT.sIx xs.length 0 lo)).take (HT.sIx xs.length xs.length hi - HT.sIx xs.length 0 lo)
def slD (x : D) (lo hi : Option Int) : Option D := match x with
  | .list xs => some (.list (cutD xs lo hi))
  | .tuple xs => some (.tuple (cutD xs lo hi))
  | .str z => if fits z.length then some (.str (cutS z lo hi)) else none
  | _ => none
def mSl (a : M BR) (lo hi : M (Option Int)) : M D := bnd a fun x => bnd lo fun l => bnd hi fun h => fun s => match res s x with
  | some d => opt (slD d l h) s
  | none => .no
theorem cut_dp {F : Hp} {xs : List V} {ds : List D} (al : DpAll K F xs ds) (lo hi : Option Int) : DpAll K F (cutV xs lo hi) (cutD ds lo hi) := by
  unfold cutV cutD
  rw [dpa_len al]
  exact dpa_take _ (dpa_drop _ al)
theorem d_sl {tl th : TO} {ml mh : M (Option Int)} (h : DB K c O ta b1) (hl : DP K c O tl ml) (hh : DP K c O th mh) : DE K c O (tSl (rSlU K) ta tl th) (mSl b1 ml mh) := ⟨fun {F H σ fps ds ds' d} r e Q q => by
  obtain ⟨x, s1, e1, g1⟩ := bnd_ok e
  obtain ⟨l, s2, e2, g2⟩ := bnd_ok g1
  obtain ⟨u, s3, e3, g3⟩ := bnd_ok g2
  refine h.run r e1 _ fun F1 H1 fps1 v sF r1 bv => ?_
  refine hl.run r1 e2 _ fun F2 H2 fps2 sF2 r2 => ?_
  refine hh.run r2 e3 _ fun F3 H3 fps3 sF3 r3 => ?_
  split at g3
  · rename_i dx hx
    obtain ⟨g4, z⟩ := opt_ok g3
    subst z
    have vw := Bm.vw r3 (bv.mono (sF2.trans sF3)) hx
    have s13 := (sF.trans sF2).trans sF3
    have fin : ∀ F' H' v, Grow F3 H3 F' H' → Dp K F' v d → Q v H' := fun F' H' v g dp => by
      obtain ⟨r4, s4⟩ := g.rel r3
      exact q F' H' fps3 v (s13.trans s4) r4 dp
    unfold slD at g4
    split at g4
    · cases g4
      obtain ⟨p, xs, rfl, sq, al⟩ := vw.lst r3.sub
      exact .inl ⟨p, xs, rfl, sq, fun p' hp => fin _ _ _ (.new _ hp) (.lst (SqL.of upd_same) (dpa_mono (same_upd (r3.sub.free hp)) (cut_dp al l u)))⟩
    · cases g4
      obtain ⟨p, xs, rfl, sq, al⟩ := vw.tup r3.sub
      have k1 := vw.tupF
      refine .inr (.inl ⟨p, xs, rfl, sq, fun hz => ?_, fun _ p' hp => fin _ _ _ (.new _ hp) (.tup (SqT.of upd_same) (dpa_mono (same_upd (r3.sub.free hp)) (cut_dp al l u)))⟩)
      rw [dpa_len al] at hz
      have hc : ∀ ys : List D, HT.sIx ys.length 0 l = 0 ∧ HT.sIx ys.length ys.length u = ys.length → cutD ys l u = ys := fun ys h => by
        unfold cutD
        rw [h.1, h.2]
        simp
      rw [hc _ hz] at fin
      exact fin _ _ _ .refl k1
    · split at g4
      · rename_i hf
        cases g4
        rw [vw.str]
        exact .inr (.inr ⟨_, rfl, fits_of hf, fin _ _ _ .refl (.str _)⟩)
      · cases g4
    · cases g4
  · cases g3⟩
/-! ### list(range(a, b)) -/
structure DR (K : Fg) (c : Ctx) (O : List Kd) (t : St → Hp → (Int → Int → Hp → Prop) → Prop) (m : M (Int × Int)) : Prop where
  run : ∀ {F H : Hp} {σ : St} {fps : Nat → List Addr} {ds ds' : DS} {a b : Int}, Rel K c O F H σ fps ds → m ds = .ok (a, b) ds' → ∀ Q : Int → Int → Hp → Prop,
    (∀ F' H' fps', Same F F' → Rel K c O F' H' σ fps' ds' → Q a b H') → t σ H Q
def mRg1 (m : M D) : M (Int × Int) := bnd m fun d => opt (match d with | .int n => some (0, n) | _ => none)
def mRg2 (m n : M D) : M (Int × Int) := bnd m fun d => bnd n fun e => opt (match d, e with | .int a, .int b => some (a, b) | _, _ => none)
theorem rg_1 (h : DE K c O te m) : DR K c O (tRg1 te) (mRg1 m) := ⟨fun {F H σ fps ds ds' a b} r e Q q => by
  obtain ⟨d, s1, e1, g1⟩ := bnd_ok e
  obtain ⟨g2, z⟩ := opt_ok g1
  subst z
  refine h.run r e1 _ fun F1 H1 fps1 v sF r1 dp => ?_
  split at g2
  · cases g2; cases dp; exact ⟨_, rfl, q F1 H1 fps1 sF r1⟩
  · cases g2⟩
theorem rg_2 {tb : TE} {n : M D} (h : DE K c O te m) (h2 : DE K c O tb n) : DR K c O (tRg2 te tb) (mRg2 m n) := ⟨fun {F H σ fps ds ds' a b} r e Q q => by
  obtain ⟨d, s1, e1, g1⟩ := bnd_ok e
  obtain ⟨d2, s2, e2, g2⟩ := bnd_ok g1
  obtain ⟨g3, z⟩ := opt_ok g2
  subst z
  refine h.run r e1 _ fun F1 H1 fps1 v sF r1 dp => ?_
  refine h2.run r1 e2 _ fun F2 H2 fps2 v2 sF2 r2 dp2 => ?_
  split at g3
  · cases g3; cases dp; cases dp2; exact ⟨_, _, rfl, rfl, q F2 H2 fps2 (sF.trans sF2) r2⟩
  · cases g3⟩
def rgD (a b : Int) : List D := (List.range (b - a).toNat).map fun i => .int (a + (i : Nat))
def rgC (a b : Int) : Bool := decide (-(2 ^ 62) ≤ a ∧ a < 2 ^ 62 ∧ -(2 ^ 62) ≤ b ∧ b < 2 ^ 62 ∧ (b - a).toNat ≤ 2 ^ 24)
def mLstRg (m : M (Int × Int)) : M D := bnd m fun p => opt (if rgC p.1 p.2 then some (.list (rgD p.1 p.2)) else none)
theorem rg_dp (F : Hp) (a b : Int) : DpAll K F (rgV a b) (rgD a b) := by
  unfold rgV rgD
  generalize (b - a).toNat = n
  have : ∀ l : List Nat, DpAll K F (l.map fun i => V.int (a + (i : Nat))) (l.map fun i => PyData.int (a + (i : Nat))) := fun l => by
    induction l with
    | nil => exact .nil
    | cons x r ih => exact .cons (.int _) ih
  exact this _
theorem o_lstRg {t : St → Hp → (Int → Int → Hp → Prop) → Prop} {mr : M (Int × Int)} (h : DR K c O t mr) : DO K c O (.ls .sh) (tLstRg t) (mLstRg mr) := ⟨fun {F H σ fps ds ds' d} r e Q q => by
  obtain ⟨⟨a, b⟩, s1, e1, g1⟩ := bnd_ok e
  obtain ⟨g2, z⟩ := opt_ok g1
  subst z
  refine h.run r e1 _ fun F1 H1 fps1 sF r1 => ?_
  split at g2
  · rename_i hc
    cases g2
    refine ⟨(of_decide_eq_true hc : -(2 ^ 62) ≤ a ∧ a < 2 ^ 62 ∧ -(2 ^ 62) ≤ b ∧ b < 2 ^ 62 ∧ (b - a).toNat ≤ 2 ^ 24), fun p hp => ?_⟩
    obtain ⟨hF, h0, hq⟩ := r1.fresh hp
    refine q F1 _ fps1 (.ref p) [p] sF (r1.allocO hp _) (ls_ow upd_same (rg_dp F1 a b)) (fun q' hq' => ?_) (by simp)
    have : q' = p := by simpa using hq'
    subst this
    exact ⟨hF, by rw [upd_same]; simp, h0, hq⟩
  · cases g2⟩
/-! ### what a for walks -/
def iSeq (K : Fg) (te : TE) : TI := fun σ H R => iList K te σ H R ∨ iTup K te σ H R
theorem pi_or {X : Cx} {tg e : Expr} {w w' : TI} (h : PI X tg e w) (h' : PI X tg e w') : PI X tg e (fun σ H R => w σ H R ∨ w' σ H R) := ⟨fun pins s σ H R I q => q.elim (h.run pins s σ H R I) (h'.run pins s σ H R I)⟩
theorem pi_seq {X : Cx} {tg e : Expr} {te : TE} (h : PE X e te) : PI X tg e (iSeq X.K te) := pi_or (pi_list h) (pi_tup h)
def mIt (m : M D) : M (List D) := bnd m fun d => opt (match d with | .list xs => some xs | .tuple xs => some xs | _ => none)
theorem walk_l {F : Hp} {a : Addr} {xs : List V} {ds : List D} (hq : SqL K F a xs) (al : DpAll K F xs ds) : Walks K F (Itl K a) ds := fun F1 H1 i s1 s2 => by
  have hq1 : SqL K H1 a xs := sqL_mono (s1.trans s2) hq
  refine ⟨fun d hd => ?_, fun hi => ⟨xs, hq1, by rw [dpa_len al]; omega⟩⟩
  obtain ⟨v, hv, dp⟩ := dpa_get al hd
  exact ⟨⟨xs, v, hq1, hv⟩, fun x H2 hy => ⟨F1, by obtain ⟨e, _⟩ := hy; subst e; exact .refl, by
    obtain ⟨e, hy⟩ := hy
    have := hy xs hq1
    rw [hv] at this
    cases this
    exact dp_mono s1 dp⟩⟩
theorem walk_t {F : Hp} {a : Addr} {xs : List V} {ds : List D} (hq : SqT K F a xs) (al : DpAll K F xs ds) : Walks K F (Itt K a) ds := fun F1 H1 i s1 s2 => by
  have hq1 : SqT K H1 a xs := sqT_mono (s1.trans s2) hq
  refine ⟨fun d hd => ?_, fun hi => ⟨xs, hq1, by rw [dpa_len al]; omega⟩⟩
  obtain ⟨v, hv, dp⟩ := dpa_get al hd
  exact ⟨⟨xs, v, hq1, hv⟩, fun x H2 hy => ⟨F1, by obtain ⟨e, _⟩ := hy; subst e; exact .refl, by
    obtain ⟨e, hy⟩ := hy
    have := hy xs hq1
    rw [hv] at this
    cases this
    exact dp_mono s1 dp⟩⟩
theorem i_seq (h : DE K c O te m) : DI K c O (iSeq K te) (mIt m) := ⟨fun {F H σ fps ds ds' xs} r e R q => by
  obtain ⟨d, s1, e1, g1⟩ := bnd_ok e
  obtain ⟨g2, z⟩ := opt_ok g1
  subst z
  split at g2
  · cases g2
    refine .inl (h.run r e1 _ fun F1 H1 fps1 v sF r1 dp => ?_)
    cases dp with
    | lst hq al => exact ⟨_, rfl, ⟨_, sqL_mono r1.sub hq⟩, q F1 H1 fps1 _ sF r1 (walk_l hq al)⟩
  · cases g2
    refine .inr (h.run r e1 _ fun F1 H1 fps1 v sF r1 dp => ?_)
    cases dp with
    | tup hq al => exact ⟨_, rfl, ⟨_, sqT_mono r1.sub hq⟩, q F1 H1 fps1 _ sF r1 (walk_t hq al)⟩
  · cases g2⟩
def rngC (a b : Int) : Bool := decide (-(2 ^ 62) ≤ a ∧ a < 2 ^ 62 ∧ -(2 ^ 62) ≤ b ∧ b < 2 ^ 62)
def mR1 (m : M (List D)) : M (List D) := bnd m fun ds => opt (match ds with | [.int j] => if rngC 0 j then some (rgD 0 j) else none | _ => none)
def mR2 (m : M (List D)) : M (List D) := bnd m fun ds => opt (match ds with | [.int i, .int j] => if rngC i j then some (rgD i j) else none | _ => none)
theorem rgD_get {a b : Int} {i : Nat} {d : D} (h : (rgD a b)[i]? = some d) : i < (b - a).toNat ∧ d = .int (a + i) := by
  unfold rgD at h
  rw [List.getElem?_map] at h
  cases z : (List.range (b - a).toNat)[i]? with
  | none => rw [z] at h; cases h
  | some j =>
    rw [z] at h
    have hi : i < (b - a).toNat := by
      have := (List.getElem?_eq_some_iff.mp z).1
      simpa using this
    rw [List.getElem?_range hi] at z
    cases z
    cases h
    exact ⟨hi, rfl⟩
theorem rgD_len (a b : Int) : (rgD a b).length = (b - a).toNat := by unfold rgD; rw [List.length_map, List.length_range]
theorem walk_r {F : Hp} (a b : Int) : Walks K F (Itr a (b - a).toNat) (rgD a b) := fun F1 H1 i s1 s2 => by
  refine ⟨fun d hd => ?_, fun hi => by rw [rgD_len] at hi; exact Nat.le_of_eq hi.symm⟩
  obtain ⟨hi, rfl⟩ := rgD_get hd
  refine ⟨hi, fun x H2 hy => ?_⟩
  obtain ⟨e, rfl⟩ := hy
  subst e
  exact ⟨F1, .refl, .int _⟩
theorem i_r1 {tl : TA} {ml : M (List D)} (h : DA K c O tl ml) : DI K c O (iRng1 tl) (mR1 ml) := ⟨fun {F H σ fps ds ds' xs} r e R q => by
  obtain ⟨es, s1, e1, g1⟩ := bnd_ok e
  obtain ⟨g2, z⟩ := opt_ok g1
  subst z
  refine h.run r e1 _ fun F1 H1 fps1 vs sF r1 al => ?_
  split at g2
  · split at g2
    · rename_i hc
      cases g2
      cases al with
      | cons h1 t1 =>
        cases t1
        cases h1
        have hh := of_decide_eq_true hc
        refine ⟨_, rfl, hh.2.2.1, hh.2.2.2, q F1 H1 fps1 _ sF r1 ?_⟩
        have w := walk_r (K := K) (F := F1) 0
        rename_i j
        have w' := w j
        rw [show j - 0 = j by omega] at w'
        exact w'
    · cases g2
  · cases g2⟩
theorem i_r2 {tl : TA} {ml : M (List D)} (h : DA K c O tl ml) : DI K c O (iRng2 tl) (mR2 ml) := ⟨fun {F H σ fps ds ds' xs} r e R q => by
  obtain ⟨es, s1, e1, g1⟩ := bnd_ok e
  obtain ⟨g2, z⟩ := opt_ok g1
  subst z
  refine h.run r e1 _ fun F1 H1 fps1 vs sF r1 al => ?_
  split at g2
  · split at g2
    · rename_i hc
      cases g2
      cases al with
      | cons h1 t1 =>
        cases t1 with
        | cons h2 t2 =>
          cases t2
          cases h1
          cases h2
          have hh := of_decide_eq_true hc
          exact ⟨_, _, rfl, hh, q F1 H1 fps1 _ sF r1 (walk_r _ _)⟩
    · cases g2
  · cases g2⟩
/-- return x, x a list of one's own -/
theorem c_retV {Ob O' : List Kd} (i : Nat) (hk : c.rk = O.getD i .sh) (hi : c.ps[i]? = none) (hp : isPm O[i]? = false := by rfl) : DC K c Ob O (tRet (tVar i)) (sRet (mVar i)) O' := ⟨fun {F H σ fps ds} r E p => by
  unfold sRet mVar at p
  cases z : ds[i]? with
  | none => simp only [z] at p; exact p.elim
  | some o =>
    cases o with
    | none => simp only [z] at p; exact p.elim
    | some d =>
      simp only [z] at p
      obtain ⟨v, hv, ow⟩ := r.slots i d z
      refine ⟨v, hv, p F H σ fps O v (fps i) (Same.refl _) r (by rw [hk]; exact ow) (fun q hq => ?_) (r.nd i)⟩
      obtain ⟨h1, h2, h3⟩ := r.off i q hq
      refine ⟨h1, h2, ?_, fun j hj hq' => ?_⟩
      · rcases h3 with h3 | ⟨_, h3⟩
        · exact h3
        · rw [hp] at h3; cases h3
      · by_cases y : j = i
        · subst y; rw [hi] at hj; cases hj
        · exact r.dj j i y q hq' hq⟩
/-- x op= e -/
def sAug (i : Nat) (f : D → D → Option D) (m : M D) : MS := fun s => match s[i]? with
  | some (some x) => match m s with
    | .ok y s' => match f x y with
      | some z => .nx (s'.set i (some z))
      | none => .no
    | .no => .no
  | _ => .no
theorem c_aug {Ob : List Kd} (i : Nat) {g : Int → Int → Int} (h : DE K c O te m) (hi : i < O.length := by first | decide | exact of_decide_eq_true rfl) (hp : isPm O[i]? = false := by rfl) (hk : O.getD i .sh = .sh := by rfl) : DC K c Ob O (tAug i te (ipI g)) (sAug i (i2 fun a b => some (.int (g a b))) m) (O.set i .sh) := ⟨fun {F H σ fps ds} r E p => by
  unfold sAug at p
  split at p
  · rename_i x hx
    obtain ⟨v, hv, ow⟩ := r.slots i x hx
    rw [hk] at ow
    refine ⟨v, hv, ?_⟩
    cases e : m ds with
    | no => rw [e] at p; exact p.elim
    | ok y s' =>
      rw [e] at p
      dsimp only at p
      refine h.run r e _ fun F1 H1 fps1 w s1 r1 dp => ?_
      split at p
      · rename_i z hz
        unfold i2 at hz
        split at hz
        · cases hz
          obtain ⟨_, ow⟩ := ow
          cases ow
          cases dp
          exact ⟨_, _, rfl, rfl, p F1 H1 _ _ s1 (r1.put hi hp (k := .sh) (fpv := []) ⟨rfl, .int _⟩ (fun q hq => absurd hq (by simp)) (by simp))⟩
        · cases hz
      · exact p.elim
  · exact p.elim⟩
/-- slot i is forgotten -/
def sKill (i : Nat) (b : MS) : MS := fun s => b (s.set i none)
theorem c_kill {Ob O' : List Kd} {t : TS} {b : MS} (i : Nat) (hi : i < O.length) (hp : isPm O[i]? = false) (h : DC K c Ob (O.set i .sh) t b O') : DC K c Ob O t (sKill i b) O' := ⟨fun {F H σ fps ds} r E p => by
  refine h.run (F := F) (H := H) (σ := σ) (fps := fun j => if j = i then [] else fps j) ?_ E p
  have hne : ∀ j k', c.ps[j]? = some (.pm k') → j ≠ i := fun j k' hjk z => by
    subst z
    rw [(r.par j k' hjk).1] at hp
    exact absurd hp (by simp [isPm])
  refine ⟨r.sub, r.base, r.keep, r.live, r.new, fun j e hj => ?_, fun j q hq => ?_, fun j => ?_, fun j l hjl q hq hq' => ?_, fun j k' h => ?_, by rw [List.length_set]; exact r.len⟩
  · have z : j ≠ i := fun z => by
      subst z
      by_cases hl : j < ds.length
      · rw [List.getElem?_set_self hl] at hj; cases hj
      · rw [List.getElem?_eq_none (by rw [List.length_set]; omega)] at hj; cases hj
    rw [List.getElem?_set_ne (Ne.symm z)] at hj
    obtain ⟨u, hu, w⟩ := r.slots j e hj
    refine ⟨u, hu, ?_⟩
    rw [getD_set_ne z]
    simp only [if_neg z]
    exact w
  · by_cases z : j = i
    · simp only [z, if_pos] at hq; exact absurd hq (by simp)
    · simp only [if_neg z] at hq
      rw [List.getElem?_set_ne (Ne.symm z)]
      exact r.off j q hq
  · by_cases z : j = i
    · simp only [z, if_pos]; simp
    · simp only [if_neg z]; exact r.nd j
  · by_cases z : j = i
    · simp only [z, if_pos] at hq; exact absurd hq (by simp)
    · by_cases z' : l = i
      · simp only [z', if_pos] at hq'; exact absurd hq' (by simp)
      · simp only [if_neg z] at hq
        simp only [if_neg z'] at hq'
        exact r.dj j l hjl q hq hq'
  · have h' := hne j k' h
    obtain ⟨a, b⟩ := r.par j k' h
    exact ⟨by rw [List.getElem?_set_ne (Ne.symm h')]; exact a, b⟩⟩
/-! ### a def of the text -/
/-- what a caller knows of a def -/
def Fk (P : Program) (w : World) (K : Fg) (mg : Str → Option Value) (base : Heap) (x : Str) (k : Nat) (ps : List Str) (sp : Sp) : Prop :=
  ∃ (f : Addr) (fd : FuncData), FnOk P w K mg base CX0 k f fd ps sp ∧ mg x = some (.ref f) ∧ PySem.W.keepIn K (.ref f) = true ∧ Binds K fd ps []
end
abbrev FnP (K : Fg) (x : Str) (st : Stmt) (f : Addr) (fd : FuncData) : Prop := FunD K x x (defArgs st) (defBody st) (defScope st) [] [] f fd
theorem fn_ok {P : Program} {w : World} {K : Fg} {mg : Str → Option Value} {base : Heap} {x : Str} {st : Stmt} {f : Addr} {fd : FuncData} {N xs : List Str} {ps : List Kd} {rk : Kd} {k : Nat} {b : MS} {O1 : List Kd} (F : FnP K x st f fd) (S : FnScope N xs (defScope st)) (hx : xs.length = ps.length) (hN : ps.length ≤ N.length)
    (h : ∀ (cdv : Value) (A : Around) (outer : List Env) (s : Shared) (H : Hp) (E : XK), Room k (A.deeper (PyProof.Rows.envOfC x (defScope st) s.heap.objs.size f cdv)) →
      ∃ t, PSs (cxOf CX0 P w K mg base N x (defScope st) f cdv A outer s H E).nox (defBody st) t ∧ ∀ c : Ctx, c.ps = ps → c.rk = rk → c.mg = mg → DC K c [] (ps ++ List.replicate (N.length - ps.length) .sh) t b O1) :
    FnOk P w K mg base CX0 (k + 1) f fd xs (spD K mg (fnD N.length ps.length rk b) ps rk) := by
  refine F.ok S (fun vs H Q E q => (spD_len q).trans hx.symm) (fun cdv A outer s H vs Q E hr q => ?_)
  obtain ⟨t, p, d⟩ := h cdv A outer s H E hr
  exact ⟨t, p.nox, body_ok rfl E (fun c h1 h2 h3 _ _ => d c h1 h2 h3) q hN⟩
/-- a def that may raise -/
theorem fn_okX {P : Program} {w : World} {K : Fg} {mg : Str → Option Value} {base : Heap} {x : Str} {st : Stmt} {f : Addr} {fd : FuncData} {N xs : List Str} {ps : List Kd} {rk : Kd} {k : Nat} {b : MS} {O1 : List Kd} (F : FnP K x st f fd) (S : FnScope N xs (defScope st)) (hx : xs.length = ps.length) (hN : ps.length ≤ N.length)
    (h : ∀ (cdv : Value) (A : Around) (outer : List Env) (s : Shared) (H : Hp) (E : XK), Room k (A.deeper (PyProof.Rows.envOfC x (defScope st) s.heap.objs.size f cdv)) →
      ∃ t, PSs (cxOf (L2.CX P w) P w K mg base N x (defScope st) f cdv A outer s H E) (defBody st) t ∧ ∀ c : Ctx, c.ps = ps → c.rk = rk → c.mg = mg → c.Ox = none → (c.W = fun cls d _ H => E cls d H) → DC K c [] (ps ++ List.replicate (N.length - ps.length) .sh) t b O1) :
    FnOk P w K mg base (L2.CX P w) (k + 1) f fd xs (spD K mg (fnD N.length ps.length rk b) ps rk) := by
  refine F.ok S (fun vs H Q E q => (spD_len q).trans hx.symm) (fun cdv A outer s H vs Q E hr q => ?_)
  obtain ⟨t, p, d⟩ := h cdv A outer s H E hr
  exact ⟨t, p, body_ok rfl E d q hN⟩
def addN := i2 fun a b => some (.int (a + b))
def subN := i2 fun a b => some (.int (a - b))
end Z
set_option Elab.async false
set_option linter.all false
set_option maxRecDepth 100000
namespace Z
open PySem L2
open PyProof.Rows in theorem bt_isinstance : bootBuiltins "isinstance" = some (.builtin "isinstance") := boot_isinstance
open PyProof.Rows in theorem bt_int : bootBuiltins "int" = some (.type "int") := boot_int
open PyProof.Rows in theorem bt_bool : bootBuiltins "bool" = some (.type "bool") := boot_bool
open PyProof.Rows in theorem bt_tuple : bootBuiltins "tuple" = some (.type "tuple") := boot_tuple
open PyProof.Rows in theorem bt_list : bootBuiltins "list" = some (.type "list") := boot_list
open PyProof.Rows in theorem bt_str : bootBuiltins "str" = some (.type "str") := boot_str
open PyProof.Rows in theorem bt_len : bootBuiltins "len" = some (.builtin "len") := boot_len
open PyProof.Rows in theorem bt_abs : bootBuiltins "abs" = some (.builtin "abs") := boot_abs
open PyProof.Rows in theorem bt_max : bootBuiltins "max" = some (.builtin "max") := boot_max
open PyProof.Rows in theorem bt_min : bootBuiltins "min" = some (.builtin "min") := boot_min
open PyProof.Rows in theorem bt_sum : bootBuiltins "sum" = some (.builtin "sum") := boot_sum
open PyProof.Rows in theorem bt_sorted : bootBuiltins "sorted" = some (.builtin "sorted") := boot_sorted
def scr (ns : List Int) : D := .list (ns.map .int)
theorem scr_dp {K : Fg} {H : Hp} : ∀ ns : List Int, DpAll K H (ns.map V.int) (ns.map PyData.int)
  | [] => .nil
  | n :: r => .cons (.int n) (scr_dp r)
theorem law_sp {K : Fg} {mg : Str → Option Value} {f : FD} (h : ∀ ns : List Int, ns.length ≤ 63 → ∃ as, f [scr ns] = .ok (.bool true) as) (H : Hp) (a : Addr) (ns : List Int) (hl : ns.length ≤ 63) (hS : SqL K H a (ns.map V.int)) (E : XK) :
    spD K mg f [.sh] .sh [.ref a] H (fun v _ => v = .bl true) E := by
  obtain ⟨as, e⟩ := h ns hl
  refine spD_ok (args_sh rfl (Same.refl _) (.cons (.lst hS (scr_dp ns)) .nil) rfl) e fun F' H' fps' v fpv o => ?_
  obtain ⟨_, dp⟩ := o.res
  cases dp
  rfl
end Z
set_option Elab.async false
set_option linter.all false
set_option maxRecDepth 100000
namespace Z
open PySem L2
/-! ### what an expression, a statement comes to, by what is wanted behind it -/
theorem nr {α : Sort u} {a b : α} (h : a = b) : a = b := h
/-- holds what simp is not to walk into -/
def W1 {α : Sort u} (_ : α) : Type := Unit
def W2 {α : Sort u} {β : Sort v} (_ : α) (_ : β) : Type := Unit
def W5 {α : Sort u} {β : Sort v} {γ : Sort w} {δ : Sort x} {ε : Sort y} (_ : α) (_ : β) (_ : γ) (_ : δ) (_ : ε) : Type := Unit
def Ev0 {α : Type} (m : M α) (s : DS) (Q : α → DS → Prop) (_ : W2 m Q := Unit.unit) : Prop := match m s with
  | .ok a s' => Q a s'
  | .no => False
def Run0 (b : MS) (s : DS) (Nx : DS → Prop) (Rt : D → DS → Prop) (Bk Ct : DS → Prop) (Ex : Xc → DS → Prop) (_ : W5 b Nx Rt Bk (Ct, Ex) := Unit.unit) : Prop := match b s with
  | .nx s' => Nx s'
  | .rt d s' => Rt d s'
  | .bk s' => Bk s'
  | .ct s' => Ct s'
  | .ex x s' => Ex x s'
  | .no => False
def So0 {α : Type} (o : Option α) (Q : α → Prop) (_ : W1 Q := Unit.unit) : Prop := match o with
  | some a => Q a
  | none => False
theorem ev_ext_0 {α : Type} {m : M α} {s : DS} {Q Q' : α → DS → Prop} (h : ∀ a s', Q a s' = Q' a s') : Ev0 m s Q = Ev0 m s Q' := by
  have : Q = Q' := funext fun a => funext fun s' => h a s'
  rw [this]
theorem so_ext_0 {α : Type} {o : Option α} {Q Q' : α → Prop} (h : ∀ a, Q a = Q' a) : So0 o Q = So0 o Q' := by
  have : Q = Q' := funext h
  rw [this]
section
variable {α β : Type} {s : DS} {Nx Bk Ct : DS → Prop} {Ex : Xc → DS → Prop} {Rt : D → DS → Prop}
theorem so_some_0 {a : α} {Q : α → Prop} : So0 (some a) Q = Q a := nr rfl
theorem so_none_0 {Q : α → Prop} : So0 (none : Option α) Q = False := nr rfl
theorem so_if_0 {c : Bool} {o : Option α} {Q : α → Prop} : So0 (if c = true then o else none) Q = (c = true ∧ So0 o Q) := by
  cases c <;> simp [So0]
theorem so_dec_0 {c : Prop} [Decidable c] {o : Option α} {Q : α → Prop} : So0 (if c then o else none) Q = (c ∧ So0 o Q) := by
  by_cases h : c <;> simp [So0, h]
theorem ev_bnd_0 {m : M α} {f : α → M β} {Q : β → DS → Prop} : Ev0 (bnd m f) s Q = Ev0 m s fun a s' => Ev0 (f a) s' Q := by
  unfold Ev0 bnd
  cases m s <;> rfl
theorem ev_ok_0 {a : α} {Q : α → DS → Prop} : Ev0 (fun s => R.ok a s) s Q = Q a s := nr rfl
theorem ev_opt_0 {o : Option α} {Q : α → DS → Prop} : Ev0 (opt o) s Q = So0 o fun a => Q a s := by
  cases o <;> rfl
theorem ev_var_0 {i : Nat} {Q : D → DS → Prop} : Ev0 (mVar i) s Q = So0 (look s i) fun d => Q d s := by
  unfold Ev0 mVar look
  cases s[i]? with
  | none => rfl
  | some o => cases o <;> rfl
theorem ev_C_0 {d : D} {Q : D → DS → Prop} : Ev0 (mC d) s Q = Q d s := nr rfl
theorem ev_V_0 {m : M D} {Q : BR → DS → Prop} : Ev0 (mV m) s Q = Ev0 m s fun d s' => Q (.val d) s' := ev_bnd_0
theorem ev_slot_0 {i : Nat} {Q : BR → DS → Prop} : Ev0 (mSlot i) s Q = So0 (look s i) fun _ => Q (.slot i) s := by
  unfold Ev0 mSlot look
  cases s[i]? with
  | none => rfl
  | some o => cases o <;> rfl
theorem res_val {d : D} : res s (.val d) = some d := nr rfl
theorem res_slot {i : Nat} : res s (.slot i) = look s i := nr rfl
theorem ev_op_0 {f : D → D → Option D} {a b : M BR} {Q : D → DS → Prop} : Ev0 (mOp f a b) s Q = Ev0 a s fun x s1 => Ev0 b s1 fun y s2 => So0 (res s2 x) fun dx => So0 (res s2 y) fun dy => So0 (f dx dy) fun d => Q d s2 := by
  unfold mOp
  rw [ev_bnd_0]
  refine ev_ext_0 fun x s1 => ?_
  rw [ev_bnd_0]
  refine ev_ext_0 fun y s2 => ?_
  dsimp only [Ev0]
  cases res s2 x with
  | none => rfl
  | some dx =>
    cases res s2 y with
    | none => rfl
    | some dy =>
      dsimp only [So0, opt]
      cases f dx dy <;> rfl
theorem ev_un_0 {f : D → Option D} {a : M BR} {Q : D → DS → Prop} : Ev0 (mUn f a) s Q = Ev0 a s fun x s1 => So0 (res s1 x) fun dx => So0 (f dx) fun d => Q d s1 := by
  unfold mUn
  rw [ev_bnd_0]
  refine ev_ext_0 fun x s1 => ?_
  dsimp only [Ev0]
  cases res s1 x with
  | none => rfl
  | some dx =>
    dsimp only [So0, opt]
    cases f dx <;> rfl
theorem ev_B_0 {m : M D} {Q : Bool → DS → Prop} : Ev0 (mB m) s Q = Ev0 m s fun d s' => So0 (tru d) fun b => Q b s' := by
  unfold mB; rw [ev_bnd_0]; refine ev_ext_0 fun d s' => ?_; exact ev_opt_0
theorem ev_and_0 {a b : M Bool} {Q : Bool → DS → Prop} : Ev0 (mAnd a b) s Q = Ev0 a s fun x s' => if x = true then Ev0 b s' Q else Q false s' := by
  unfold mAnd; rw [ev_bnd_0]; refine ev_ext_0 fun x s' => ?_; cases x <;> rfl
theorem ev_or_0 {a b : M Bool} {Q : Bool → DS → Prop} : Ev0 (mOr a b) s Q = Ev0 a s fun x s' => if x = true then Q true s' else Ev0 b s' Q := by
  unfold mOr; rw [ev_bnd_0]; refine ev_ext_0 fun x s' => ?_; cases x <;> rfl
theorem ev_not_0 {a : M Bool} {Q : Bool → DS → Prop} : Ev0 (mNot a) s Q = Ev0 a s fun x s' => Q (!x) s' := by
  unfold mNot; rw [ev_bnd_0]; rfl
theorem ev_andV_0 {a b : M D} {Q : D → DS → Prop} : Ev0 (mAndV a b) s Q = Ev0 (mB a) s fun x s' => if x = true then Ev0 b s' Q else Q (.bool false) s' := by
  unfold mAndV; rw [ev_bnd_0]; refine ev_ext_0 fun x s' => ?_; cases x <;> rfl
theorem ev_orV_0 {a b : M D} {Q : D → DS → Prop} : Ev0 (mOrV a b) s Q = Ev0 (mB a) s fun x s' => if x = true then Q (.bool true) s' else Ev0 b s' Q := by
  unfold mOrV; rw [ev_bnd_0]; refine ev_ext_0 fun x s' => ?_; cases x <;> rfl
theorem ev_notV_0 {a : M D} {Q : D → DS → Prop} : Ev0 (mNotV a) s Q = Ev0 (mB a) s fun x s' => Q (.bool (!x)) s' := by
  unfold mNotV; rw [ev_bnd_0]; rfl
theorem ev_if_0 {t : M Bool} {a b : M D} {Q : D → DS → Prop} : Ev0 (mIf t a b) s Q = Ev0 t s fun x s' => if x = true then Ev0 a s' Q else Ev0 b s' Q := by
  unfold mIf; rw [ev_bnd_0]; refine ev_ext_0 fun x s' => ?_; cases x <;> rfl
theorem ev_chain_0 {f g : D → D → Option D} {a b c : M D} {Q : D → DS → Prop} : Ev0 (mChain f g a b c) s Q = Ev0 a s fun x s1 => Ev0 b s1 fun y s2 => So0 (f x y) fun z => So0 (tru z) fun k => if k = true then (Ev0 c s2 fun w s3 => So0 (g y w) fun r => Q r s3) else Q (.bool false) s2 := by
  unfold mChain
  rw [ev_bnd_0]; refine ev_ext_0 fun x s1 => ?_
  rw [ev_bnd_0]; refine ev_ext_0 fun y s2 => ?_
  rw [ev_bnd_0, ev_opt_0]
  cases f x y with
  | none => rfl
  | some z =>
    simp only [so_some_0]
    cases z with
    | bool k =>
      cases k with
      | true =>
        simp only [tru, so_some_0, if_true]
        rw [ev_bnd_0]; refine ev_ext_0 fun w s3 => ?_
        exact ev_opt_0
      | false => simp [tru, so_some_0, Ev0]
    | _ => simp [tru, So0, Ev0]
theorem ev_nil_0 {Q : List D → DS → Prop} : Ev0 mNil s Q = Q [] s := nr rfl
theorem ev_cons_0 {a : M D} {r : M (List D)} {Q : List D → DS → Prop} : Ev0 (mCons a r) s Q = Ev0 a s fun x s1 => Ev0 r s1 fun xs s2 => Q (x :: xs) s2 := by
  unfold mCons; rw [ev_bnd_0]; refine ev_ext_0 fun x s1 => ?_; rw [ev_bnd_0]; rfl
theorem ev_nilB_0 {Q : List BR → DS → Prop} : Ev0 mNilB s Q = Q [] s := nr rfl
theorem ev_consB_0 {a : M BR} {r : M (List BR)} {Q : List BR → DS → Prop} : Ev0 (mConsB a r) s Q = Ev0 a s fun x s1 => Ev0 r s1 fun xs s2 => Q (x :: xs) s2 := by
  unfold mConsB; rw [ev_bnd_0]; refine ev_ext_0 fun x s1 => ?_; rw [ev_bnd_0]; rfl
theorem ev_tup_0 {a : M (List D)} {Q : D → DS → Prop} : Ev0 (mTup a) s Q = Ev0 a s fun xs s' => fits xs.length = true ∧ Q (.tuple xs) s' := by
  unfold mTup; rw [ev_bnd_0]; refine ev_ext_0 fun xs s' => ?_; rw [ev_opt_0, so_if_0]; rfl
theorem ev_lst_0 {a : M (List D)} {Q : D → DS → Prop} : Ev0 (mLst a) s Q = Ev0 a s fun xs s' => fits xs.length = true ∧ Q (.list xs) s' := by
  unfold mLst; rw [ev_bnd_0]; refine ev_ext_0 fun xs s' => ?_; rw [ev_opt_0, so_if_0]; rfl
theorem ev_B1_0 {f : List D → Option D} {a : M (List BR)} {Q : D → DS → Prop} : Ev0 (mB1 f a) s Q = Ev0 a s fun xs s' => So0 (xs.mapM (res s')) fun ds => So0 (f ds) fun d => Q d s' := by
  unfold mB1; rw [ev_bnd_0]; refine ev_ext_0 fun xs s' => ?_
  dsimp only [Ev0]
  cases xs.mapM (res s') with
  | none => rfl
  | some ds =>
    dsimp only [So0, opt]
    cases f ds <;> rfl
theorem ev_call_0 {f : FD} {n : Nat} {a : M (List D)} {Q : D → DS → Prop} : Ev0 (mCall f n a) s Q = Ev0 a s fun xs s' => xs.length = n ∧ ∃ d as, f xs = .ok d as ∧ Q d s' := by
  unfold mCall; rw [ev_bnd_0]; refine ev_ext_0 fun xs s' => ?_
  dsimp only [Ev0]
  by_cases h : xs.length = n
  · rw [if_pos h]
    cases f xs with
    | no => simp
    | ex x as => simp
    | ok d as => simp [h]
  · rw [if_neg h]; simp [h]
theorem ev_call1_0 {f : FD} {n j : Nat} {a : M (List D)} {Q : D → DS → Prop} : Ev0 (mCall1 f n j a) s Q = So0 (look s j) fun _ => Ev0 a s fun xs s' => So0 (look s' j) fun e => xs.length = n ∧ ∃ d e' as, f (e :: xs) = .ok d (e' :: as) ∧ Q d (s'.set j (some e')) := by
  unfold mCall1 look
  dsimp only [Ev0]
  cases s[j]? with
  | none => rfl
  | some o =>
    cases o with
    | none => rfl
    | some x =>
      dsimp only [So0, bnd]
      cases a s with
      | no => rfl
      | ok xs s' =>
        dsimp only
        cases s'[j]? with
        | none => rfl
        | some o' =>
          cases o' with
          | none => rfl
          | some e =>
            dsimp only
            by_cases h : xs.length = n
            · rw [if_pos h]
              cases f (e :: xs) with
              | no => simp
              | ex x as => simp
              | ok d as =>
                cases as with
                | nil => simp
                | cons e' as =>
                  refine propext ⟨fun q => ⟨h, d, e', as, rfl, q⟩, fun ⟨_, d1, e1, as1, z, q⟩ => ?_⟩
                  cases z
                  exact q
            · rw [if_neg h]; simp [h]
theorem ev_callT_0 {f : FD} {n : Nat} {m0 : M D} {a : M (List D)} {Q : D → DS → Prop} : Ev0 (mCallT f n m0 a) s Q = Ev0 m0 s fun e s1 => Ev0 a s1 fun xs s' => xs.length = n ∧ ∃ d e' as, f (e :: xs) = .ok d (e' :: as) ∧ Q d s' := by
  unfold mCallT; rw [ev_bnd_0]; refine ev_ext_0 fun e s1 => ?_; rw [ev_bnd_0]; refine ev_ext_0 fun xs s' => ?_
  dsimp only [Ev0]
  by_cases h : xs.length = n
  · rw [if_pos h]
    cases f (e :: xs) with
    | no => simp
    | ex x as => simp
    | ok d as => cases as <;> simp [h]
  · rw [if_neg h]; simp [h]
theorem ev_sl_0 {a : M BR} {lo hi : M (Option Int)} {Q : D → DS → Prop} : Ev0 (mSl a lo hi) s Q = Ev0 a s fun x s1 => Ev0 lo s1 fun l s2 => Ev0 hi s2 fun h s3 => So0 (res s3 x) fun d => So0 (slD d l h) fun r => Q r s3 := by
  unfold mSl; rw [ev_bnd_0]; refine ev_ext_0 fun x s1 => ?_; rw [ev_bnd_0]; refine ev_ext_0 fun l s2 => ?_; rw [ev_bnd_0]; refine ev_ext_0 fun h s3 => ?_
  dsimp only [Ev0]
  cases res s3 x with
  | none => rfl
  | some d =>
    dsimp only [So0, opt]
    cases slD d l h <;> rfl
theorem ev_P0_0 {Q : Option Int → DS → Prop} : Ev0 mP0 s Q = Q none s := nr rfl
def iof : D → Option Int
  | .int i => some i
  | _ => none
theorem ev_P1_0 {m : M D} {Q : Option Int → DS → Prop} : Ev0 (mP1 m) s Q = Ev0 m s fun d s' => So0 (iof d) fun i => Q (some i) s' := by
  unfold mP1; rw [ev_bnd_0]; refine ev_ext_0 fun d s' => ?_; rw [ev_opt_0]; cases d <;> rfl
theorem ev_Rg1_0 {m : M D} {Q : Int × Int → DS → Prop} : Ev0 (mRg1 m) s Q = Ev0 m s fun d s' => So0 (iof d) fun i => Q (0, i) s' := by
  unfold mRg1; rw [ev_bnd_0]; refine ev_ext_0 fun d s' => ?_; rw [ev_opt_0]; cases d <;> rfl
theorem ev_Rg2_0 {m n : M D} {Q : Int × Int → DS → Prop} : Ev0 (mRg2 m n) s Q = Ev0 m s fun d s1 => Ev0 n s1 fun e s' => So0 (iof d) fun i => So0 (iof e) fun j => Q (i, j) s' := by
  unfold mRg2; rw [ev_bnd_0]; refine ev_ext_0 fun d s1 => ?_; rw [ev_bnd_0]; refine ev_ext_0 fun e s' => ?_; rw [ev_opt_0]; cases d <;> cases e <;> rfl
theorem ev_LstRg_0 {m : M (Int × Int)} {Q : D → DS → Prop} : Ev0 (mLstRg m) s Q = Ev0 m s fun p s' => rgC p.1 p.2 = true ∧ Q (.list (rgD p.1 p.2)) s' := by
  unfold mLstRg; rw [ev_bnd_0]; refine ev_ext_0 fun p s' => ?_; rw [ev_opt_0, so_if_0]; rfl
def itD : D → Option (List D)
  | .list xs => some xs
  | .tuple xs => some xs
  | _ => none
theorem ev_It_0 {m : M D} {Q : List D → DS → Prop} : Ev0 (mIt m) s Q = Ev0 m s fun d s' => So0 (itD d) fun xs => Q xs s' := by
  unfold mIt; rw [ev_bnd_0]; refine ev_ext_0 fun d s' => ?_; rw [ev_opt_0]; cases d <;> rfl
def r1D : List D → Option Int
  | [.int j] => some j
  | _ => none
def r2D : List D → Option (Int × Int)
  | [.int i, .int j] => some (i, j)
  | _ => none
theorem ev_R1_0 {m : M (List D)} {Q : List D → DS → Prop} : Ev0 (mR1 m) s Q = Ev0 m s fun d s' => So0 (r1D d) fun j => rngC 0 j = true ∧ Q (rgD 0 j) s' := by
  unfold mR1; rw [ev_bnd_0]; refine ev_ext_0 fun d s' => ?_; rw [ev_opt_0]
  unfold r1D
  split
  · rw [so_if_0]; rfl
  · rename_i hn
    first
    | rfl
    | (split
       · rename_i j; exact absurd rfl (hn j)
       · rfl)
theorem ev_R2_0 {m : M (List D)} {Q : List D → DS → Prop} : Ev0 (mR2 m) s Q = Ev0 m s fun d s' => So0 (r2D d) fun p => rngC p.1 p.2 = true ∧ Q (rgD p.1 p.2) s' := by
  unfold mR2; rw [ev_bnd_0]; refine ev_ext_0 fun d s' => ?_; rw [ev_opt_0]
  unfold r2D
  split
  · rw [so_if_0]; rfl
  · rename_i hn
    first
    | rfl
    | (split
       · rename_i i j; exact absurd rfl (hn i j)
       · rfl)
/-! statements -/
theorem run_nx_0 : Run0 sNx s Nx Rt Bk Ct Ex = Nx s := nr rfl
theorem run_no_0 : Run0 sNo s Nx Rt Bk Ct Ex = False := nr rfl
theorem run_bk_0 : Run0 sBk s Nx Rt Bk Ct Ex = Bk s := nr rfl
theorem run_ct_0 : Run0 sCt s Nx Rt Bk Ct Ex = Ct s := nr rfl
theorem run_seq_0 {a b : MS} : Run0 (sSeq a b) s Nx Rt Bk Ct Ex = Run0 a s (fun s' => Run0 b s' Nx Rt Bk Ct Ex) Rt Bk Ct Ex := by
  unfold Run0 sSeq
  cases a s <;> rfl
theorem run_set_0 {i : Nat} {m : M D} : Run0 (sSet i m) s Nx Rt Bk Ct Ex = Ev0 m s fun d s' => Nx (s'.set i (some d)) := by
  unfold Run0 sSet Ev0
  cases m s <;> rfl
theorem run_drop_0 {m : M D} : Run0 (sDrop m) s Nx Rt Bk Ct Ex = Ev0 m s fun _ s' => Nx s' := by
  unfold Run0 sDrop Ev0
  cases m s <;> rfl
theorem run_ret_0 {m : M D} : Run0 (sRet m) s Nx Rt Bk Ct Ex = Ev0 m s fun d s' => Rt d s' := by
  unfold Run0 sRet Ev0
  cases m s <;> rfl
theorem run_if_0 {t : M Bool} {a b : MS} : Run0 (sIf t a b) s Nx Rt Bk Ct Ex = Ev0 t s fun x s' => if x = true then Run0 a s' Nx Rt Bk Ct Ex else Run0 b s' Nx Rt Bk Ct Ex := by
  unfold sIf Ev0
  show (match (match t s with | .ok true s' => a s' | .ok false s' => b s' | .no => .no) with | .nx s' => Nx s' | .rt d s' => Rt d s' | .bk s' => Bk s' | .ct s' => Ct s' | .ex x s' => Ex x s' | .no => False) = _
  cases t s with
  | no => rfl
  | ok x s' => cases x <;> rfl
theorem run_asg_0 {m : M D} {g : MG} : Run0 (sAsg m g) s Nx Rt Bk Ct Ex = Ev0 m s fun d s' => So0 (g d s') fun s2 => Nx s2 := by
  unfold Run0 sAsg Ev0
  cases m s with
  | no => rfl
  | ok d s' =>
    simp only
    cases g d s' <;> rfl
def lof : D → Option (List D)
  | .list xs => some xs
  | _ => none
theorem run_app_0 {i : Nat} {m : M D} : Run0 (sApp i m) s Nx Rt Bk Ct Ex = So0 (look s i) fun d0 => So0 (lof d0) fun _ => Ev0 m s fun d s' => So0 (look s' i) fun d1 => So0 (lof d1) fun xs => decide (xs.length < sizeLine) = true ∧ Nx (s'.set i (some (.list (xs ++ [d])))) := by
  unfold Run0 sApp look Ev0
  cases h : s[i]? with
  | none => rfl
  | some o =>
    cases o with
    | none => rfl
    | some d0 =>
      cases d0 <;> try rfl
      simp only [so_some_0, lof]
      cases m s with
      | no => rfl
      | ok d s' =>
        simp only
        cases h' : s'[i]? with
        | none => rfl
        | some o' =>
          cases o' with
          | none => rfl
          | some d1 =>
            cases d1 <;> try rfl
            rename_i xs
            simp only [so_some_0, lof]
            by_cases hz : xs.length < sizeLine
            · simp [hz]
            · simp [hz]
theorem run_put_0 {i : Nat} {me m : M D} : Run0 (sPut i me m) s Nx Rt Bk Ct Ex = Ev0 m s fun d s1 => So0 (look s1 i) fun d0 => So0 (lof d0) fun _ => Ev0 me s1 fun k s2 => So0 (iof k) fun z => So0 (look s2 i) fun d1 => So0 (lof d1) fun xs => So0 (ixN xs.length z) fun j => Nx (s2.set i (some (.list (xs.set j d)))) := by
  unfold Run0 sPut look Ev0
  cases m s with
  | no => rfl
  | ok d s1 =>
    simp only
    cases h : s1[i]? with
    | none => rfl
    | some o =>
      cases o with
      | none => rfl
      | some d0 =>
        cases d0 <;> try rfl
        simp only [so_some_0, lof]
        cases me s1 with
        | no => rfl
        | ok k s2 =>
          simp only
          cases k <;> try rfl
          simp only [so_some_0, iof]
          cases h' : s2[i]? with
          | none => rfl
          | some o' =>
            cases o' with
            | none => rfl
            | some d1 =>
              cases d1 <;> try rfl
              rename_i z xs
              simp only [so_some_0, lof]
              cases ixN xs.length z <;> rfl
theorem run_aug_0 {i : Nat} {f : D → D → Option D} {m : M D} : Run0 (sAug i f m) s Nx Rt Bk Ct Ex = So0 (look s i) fun x => Ev0 m s fun y s' => So0 (f x y) fun z => Nx (s'.set i (some z)) := by
  unfold Run0 sAug look Ev0
  cases h : s[i]? with
  | none => rfl
  | some o =>
    cases o with
    | none => rfl
    | some x =>
      simp only [so_some_0]
      cases m s with
      | no => rfl
      | ok y s' =>
        simp only
        cases f x y <;> rfl
theorem run_frz_0 {i : Nat} {b : MS} : Run0 (sFrz i b) s Nx Rt Bk Ct Ex = So0 (look s i) fun _ => Run0 b s Nx Rt Bk Ct Ex := by
  unfold look
  dsimp only [Run0, sFrz]
  cases h : s[i]? with
  | none => rfl
  | some o => cases o <;> rfl
theorem run_kill_0 {i : Nat} {b : MS} : Run0 (sKill i b) s Nx Rt Bk Ct Ex = Run0 b (s.set i none) Nx Rt Bk Ct Ex := nr rfl
/-- a for by its invariant: by the items taken and the slots -/
theorem run_for_0 {mi : M (List D)} {g : MG} {b : MS} {xs : List D} {s' : DS} (I : Nat → DS → Prop) (h : mi s = .ok xs s') (h0 : I 0 s')
    (ht : ∀ i d s1, xs[i]? = some d → I i s1 → So0 (g d s1) fun s2 => Run0 b s2 (I (i + 1)) Rt Nx (I (i + 1)) Ex) (he : ∀ s1, I xs.length s1 → Nx s1) : Run0 (sFor mi g b) s Nx Rt Bk Ct Ex := by
  unfold Run0 sFor
  rw [h]
  have key : ∀ (n : Nat) (i : Nat) (s1 : DS), n + i = xs.length → I i s1 → Run0 (loop g b (xs.drop i)) s1 Nx Rt Bk Ct Ex := fun n => by
    induction n with
    | zero =>
      intro i s1 hn hI
      have : i = xs.length := by omega
      subst this
      rw [List.drop_of_length_le (Nat.le_refl _)]
      exact he s1 hI
    | succ n ih =>
      intro i s1 hn hI
      have hlt : i < xs.length := by omega
      have hd : xs.drop i = xs[i] :: xs.drop (i + 1) := List.drop_eq_getElem_cons hlt
      rw [hd]
      have t := ht i xs[i] s1 (List.getElem?_eq_getElem hlt) hI
      unfold Run0 loop
      cases hg : g xs[i] s1 with
      | none => rw [hg] at t; exact t
      | some s2 =>
        rw [hg] at t
        simp only [So0] at t
        unfold Run0 at t
        dsimp only
        cases hb : b s2 with
        | nx s3 => rw [hb] at t; exact ih (i + 1) s3 (by omega) t
        | ct s3 => rw [hb] at t; exact ih (i + 1) s3 (by omega) t
        | bk s3 => rw [hb] at t; exact t
        | rt d s3 => rw [hb] at t; exact t
        | ex x s3 => rw [hb] at t; exact t
        | no => rw [hb] at t; exact t
  exact key xs.length 0 s' (by omega) h0
/-- for, the items' expression read by Ev0 -/
theorem run_forE_0 {mi : M (List D)} {g : MG} {b : MS} (h : Ev0 mi s fun xs s' => ∃ I : Nat → DS → Prop, I 0 s' ∧ (∀ i d s1, xs[i]? = some d → I i s1 → So0 (g d s1) fun s2 => Run0 b s2 (I (i + 1)) Rt Nx (I (i + 1)) Ex) ∧ ∀ s1, I xs.length s1 → Nx s1) : Run0 (sFor mi g b) s Nx Rt Bk Ct Ex := by
  unfold Ev0 at h
  split at h
  · rename_i xs s' e
    obtain ⟨I, h0, ht, he⟩ := h
    exact run_for_0 I e h0 ht he
  · exact h.elim
/-- while, by an invariant and a measure -/
theorem run_while_0 {t : M Bool} {b : MS} (I : DS → Prop) (μ : DS → Nat) (h0 : I s)
    (ht : ∀ s1, I s1 → Ev0 t s1 fun x s2 => if x = true then Run0 b s2 (fun s3 => I s3 ∧ μ s3 < μ s1) Rt Nx (fun s3 => I s3 ∧ μ s3 < μ s1) Ex else Nx s2) : Run0 (sWhile t b) s Nx Rt Bk Ct Ex := by
  have key : ∀ (n : Nat) (s1 : DS), μ s1 < n → I s1 → ∃ r, wl t b n s1 = r ∧ r ≠ .no ∧ (match r with | .nx s' => Nx s' | .rt d s' => Rt d s' | .ex x s' => Ex x s' | _ => False) := fun n => by
    induction n with
    | zero => intro s1 h; omega
    | succ n ih =>
      intro s1 hm hI
      have h := ht s1 hI
      unfold Ev0 at h
      unfold wl
      cases e : t s1 with
      | no => rw [e] at h; exact h.elim
      | ok x s2 =>
        rw [e] at h
        cases x with
        | false => exact ⟨_, rfl, (fun z => nomatch z), h⟩
        | true =>
          simp only [if_true] at h
          unfold Run0 at h
          dsimp only
          cases eb : b s2 with
          | nx s3 => rw [eb] at h; exact ih s3 (by omega) h.1
          | ct s3 => rw [eb] at h; exact ih s3 (by omega) h.1
          | bk s3 => rw [eb] at h; exact ⟨_, rfl, (fun z => nomatch z), h⟩
          | rt d s3 => rw [eb] at h; exact ⟨_, rfl, (fun z => nomatch z), h⟩
          | ex x s3 => rw [eb] at h; exact ⟨_, rfl, (fun z => nomatch z), h⟩
          | no => rw [eb] at h; exact h.elim
  obtain ⟨r, e, hr, q⟩ := key (μ s + 1) s (by omega) h0
  have e2 := sWhile_of (μ s + 1) e hr
  unfold Run0
  rw [e2]
  cases r with
  | nx s' => exact q
  | rt d s' => exact q
  | ex x s' => exact q
  | bk s' => exact q.elim
  | ct s' => exact q.elim
  | no => exact q.elim
/-- a def's meaning, by its body -/
theorem fn_run_0 {N n : Nat} {rk : Kd} {b : MS} {args : List D} {Q : D → List D → Prop} (hl : args.length = n) (h : Run0 b (entry N args) (fun s => rk = .sh ∧ So0 ((List.range n).mapM (look s)) fun as => Q .none as) (fun d s => So0 ((List.range n).mapM (look s)) fun as => Q d as) (fun _ => False) (fun _ => False) (fun _ _ => False)) :
    ∃ d as, fnD N n rk b args = .ok d as ∧ Q d as := by
  unfold Run0 at h
  unfold fnD
  rw [if_pos hl]
  split at h
  · rename_i s e
    rw [e]
    simp only [h.1, if_true]
    obtain ⟨_, h⟩ := h
    unfold leave
    cases z : (List.range n).mapM (look s) with
    | none => rw [z] at h; exact h.elim
    | some as => rw [z] at h; exact ⟨_, _, rfl, h⟩
  · rename_i d s e
    rw [e]
    dsimp only
    unfold leave
    cases z : (List.range n).mapM (look s) with
    | none => rw [z] at h; exact h.elim
    | some as => rw [z] at h; exact ⟨_, _, rfl, h⟩
  · exact h.elim
  · exact h.elim
  · exact h.elim
  · exact h.elim
theorem ev_mono_0 {m : M α} {Q Q' : α → DS → Prop} (h : Ev0 m s Q) (f : ∀ a s', Q a s' → Q' a s') : Ev0 m s Q' := by
  unfold Ev0 at h ⊢
  cases e : m s with
  | no => rw [e] at h; exact h
  | ok a s' => rw [e] at h; exact f _ _ h
theorem run_mono_0 {b : MS} {Nx' Bk' Ct' : DS → Prop} {Ex' : Xc → DS → Prop} {Rt' : D → DS → Prop} (h : Run0 b s Nx Rt Bk Ct Ex) (f1 : ∀ s', Nx s' → Nx' s') (f2 : ∀ d s', Rt d s' → Rt' d s') (f3 : ∀ s', Bk s' → Bk' s') (f4 : ∀ s', Ct s' → Ct' s') (f5 : ∀ x s', Ex x s' → Ex' x s') : Run0 b s Nx' Rt' Bk' Ct' Ex' := by
  unfold Run0 at h ⊢
  cases e : b s with
  | nx s' => rw [e] at h; exact f1 _ h
  | rt d s' => rw [e] at h; exact f2 _ _ h
  | bk s' => rw [e] at h; exact f3 _ h
  | ct s' => rw [e] at h; exact f4 _ h
  | ex x s' => rw [e] at h; exact f5 _ _ h
  | no => rw [e] at h; exact h
end
end Z
set_option Elab.async false
set_option linter.all false
set_option maxRecDepth 100000
namespace Z
open PySem L2
/-! ### the meaning run by simp: ways and calls stand still until they are asked -/
def Br0 (x : Bool) (A B : Prop) (_ : W2 A B := Unit.unit) : Prop := if x = true then A else B
theorem br_t_0 {A B : Prop} : Br0 true A B = A := nr rfl
theorem br_f_0 {A B : Prop} : Br0 false A B = B := by unfold Br0; simp
theorem br_i_0 {x : Bool} {A B : Prop} (h1 : x = true → A) (h2 : x = false → B) : Br0 x A B := by
  cases x with
  | true => exact h1 rfl
  | false => rw [br_f_0]; exact h2 rfl
theorem br_d_0 {p : Prop} [Decidable p] {A B : Prop} (h1 : p → A) (h2 : ¬ p → B) : Br0 (decide p) A B := br_i_0 (fun h => h1 (of_decide_eq_true h)) fun h => h2 (of_decide_eq_false h)
theorem br_y_0 {p : Prop} [Decidable p] {A B : Prop} (h : p) (h1 : A) : Br0 (decide p) A B := br_d_0 (fun _ => h1) fun z => absurd h z
theorem br_n_0 {p : Prop} [Decidable p] {A B : Prop} (h : ¬ p) (h1 : B) : Br0 (decide p) A B := br_d_0 (fun z => absurd z h) fun _ => h1
def Cl0 (f : FD) (xs : List D) (Q : D → List D → Prop) (_ : W2 f Q := Unit.unit) : Prop := ∃ d as, f xs = .ok d as ∧ Q d as
theorem Cl0.of_0 {f : FD} {xs : List D} {Q : D → List D → Prop} {d : D} {as : List D} (h : f xs = .ok d as) (q : Q d as) : Cl0 f xs Q := ⟨d, as, h, q⟩
theorem Cl0.mono_0 {f : FD} {xs : List D} {Q Q' : D → List D → Prop} (h : Cl0 f xs Q) (g : ∀ d as, Q d as → Q' d as) : Cl0 f xs Q' := by
  obtain ⟨d, as, e, q⟩ := h
  exact ⟨d, as, e, g d as q⟩
section
variable {s : DS} {Nx : DS → Prop} {Rt : D → DS → Prop} {Bk Ct : DS → Prop} {Ex : Xc → DS → Prop}
theorem fn_cl_0 {N n : Nat} {rk : Kd} {b : MS} {args : List D} {Q : D → List D → Prop} (hl : args.length = n) (h : Run0 b (entry N args) (fun s => rk = .sh ∧ So0 ((List.range n).mapM (look s)) fun as => Q .none as) (fun d s => So0 ((List.range n).mapM (look s)) fun as => Q d as) (fun _ => False) (fun _ => False) (fun _ _ => False)) :
    Cl0 (fnD N n rk b) args Q := fn_run_0 hl h
theorem lk0 {x : Option D} : look (x :: s) 0 = x := by cases x <;> rfl
theorem lkS {x : Option D} {n : Nat} : look (x :: s) (n + 1) = look s n := nr rfl
theorem st0 {x y : Option D} : List.set (x :: s) 0 y = y :: s := nr rfl
theorem stS {x y : Option D} {n : Nat} : List.set (x :: s) (n + 1) y = x :: List.set s n y := nr rfl
theorem entry0 {N : Nat} : entry N [] = List.replicate N none := by simp [entry]
theorem entryS {N : Nat} {a : D} {l : List D} : entry (N + 1) (a :: l) = some a :: entry N l := by simp [entry]
theorem rep0 : List.replicate 0 (none : Option D) = [] := nr rfl
theorem repS {n : Nat} : List.replicate (n + 1) (none : Option D) = none :: List.replicate n none := nr rfl
theorem so_bind_0 {α β : Type} {o : Option α} {f : α → Option β} {Q : β → Prop} : So0 (o >>= f) Q = So0 o fun a => So0 (f a) Q := by cases o <;> rfl
theorem so_pure_0 {α : Type} {a : α} {Q : α → Prop} : So0 (pure a) Q = Q a := nr rfl
theorem so_mapN_0 {α β : Type} {f : α → Option β} {Q : List β → Prop} : So0 (List.mapM f []) Q = Q [] := nr rfl
theorem so_mapC_0 {α β : Type} {f : α → Option β} {x : α} {l : List α} {Q : List β → Prop} : So0 (List.mapM f (x :: l)) Q = So0 (f x) fun a => So0 (List.mapM f l) fun as => Q (a :: as) := by
  rw [List.mapM_cons, so_bind_0]
  refine so_ext_0 fun a => ?_
  rw [so_bind_0]
  congr 1
theorem lks_eq_0 {n : Nat} {Q : List D → Prop} : So0 ((List.range n).mapM (look s)) Q = So0 ((List.range' 0 n).mapM (look s)) Q := by rw [List.range_eq_range']
theorem rg_z {a : Nat} : List.range' a 0 = [] := nr rfl
theorem rg_s {a n : Nat} : List.range' a (n + 1) = a :: List.range' (a + 1) n := nr rfl
/-! ways -/
theorem xv_and_0 {a b : M Bool} {Q : Bool → DS → Prop} : Ev0 (mAnd a b) s Q = Ev0 a s fun x s' => Br0 x (Ev0 b s' Q) (Q false s') := ev_and_0
theorem xv_or_0 {a b : M Bool} {Q : Bool → DS → Prop} : Ev0 (mOr a b) s Q = Ev0 a s fun x s' => Br0 x (Q true s') (Ev0 b s' Q) := ev_or_0
theorem xv_andV_0 {a b : M D} {Q : D → DS → Prop} : Ev0 (mAndV a b) s Q = Ev0 (mB a) s fun x s' => Br0 x (Ev0 b s' Q) (Q (.bool false) s') := ev_andV_0
theorem xv_orV_0 {a b : M D} {Q : D → DS → Prop} : Ev0 (mOrV a b) s Q = Ev0 (mB a) s fun x s' => Br0 x (Q (.bool true) s') (Ev0 b s' Q) := ev_orV_0
theorem xv_if_0 {t : M Bool} {a b : M D} {Q : D → DS → Prop} : Ev0 (mIf t a b) s Q = Ev0 t s fun x s' => Br0 x (Ev0 a s' Q) (Ev0 b s' Q) := ev_if_0
theorem xv_chain_0 {f g : D → D → Option D} {a b c : M D} {Q : D → DS → Prop} : Ev0 (mChain f g a b c) s Q = Ev0 a s fun x s1 => Ev0 b s1 fun y s2 => So0 (f x y) fun z => So0 (tru z) fun k => Br0 k (Ev0 c s2 fun w s3 => So0 (g y w) fun r => Q r s3) (Q (.bool false) s2) := ev_chain_0
theorem xr_if_0 {t : M Bool} {a b : MS} : Run0 (sIf t a b) s Nx Rt Bk Ct Ex = Ev0 t s fun x s' => Br0 x (Run0 a s' Nx Rt Bk Ct Ex) (Run0 b s' Nx Rt Bk Ct Ex) := run_if_0
theorem xv_call_0 {f : FD} {n : Nat} {a : M (List D)} {Q : D → DS → Prop} : Ev0 (mCall f n a) s Q = Ev0 a s fun xs s' => xs.length = n ∧ Cl0 f xs fun d _ => Q d s' := by
  rw [ev_call_0]; rfl
def hdO (as : List D) : Option D := as.head?
theorem xv_call1_0 {f : FD} {n j : Nat} {a : M (List D)} {Q : D → DS → Prop} : Ev0 (mCall1 f n j a) s Q = So0 (look s j) fun _ => Ev0 a s fun xs s' => So0 (look s' j) fun e => xs.length = n ∧ Cl0 f (e :: xs) fun d as => So0 (hdO as) fun e' => Q d (s'.set j (some e')) := by
  rw [ev_call1_0]
  refine so_ext_0 fun _ => ?_
  refine ev_ext_0 fun xs s' => ?_
  refine so_ext_0 fun e => ?_
  refine congrArg _ (propext ⟨fun ⟨d, e', as, h, q⟩ => ⟨d, _, h, q⟩, fun ⟨d, as, h, q⟩ => ?_⟩)
  cases as with
  | nil => exact q.elim
  | cons e' as => exact ⟨d, e', as, h, q⟩
theorem xv_callT_0 {f : FD} {n : Nat} {m0 : M D} {a : M (List D)} {Q : D → DS → Prop} : Ev0 (mCallT f n m0 a) s Q = Ev0 m0 s fun e s1 => Ev0 a s1 fun xs s' => xs.length = n ∧ Cl0 f (e :: xs) fun d as => So0 (hdO as) fun _ => Q d s' := by
  rw [ev_callT_0]
  refine ev_ext_0 fun e s1 => ?_
  refine ev_ext_0 fun xs s' => ?_
  refine congrArg _ (propext ⟨fun ⟨d, e', as, h, q⟩ => ⟨d, _, h, q⟩, fun ⟨d, as, h, q⟩ => ?_⟩)
  cases as with
  | nil => exact q.elim
  | cons e' as => exact ⟨d, e', as, h, q⟩
theorem hdC_0 {a : D} {as : List D} {Q : D → Prop} : So0 (hdO (a :: as)) Q = Q a := nr rfl
/-! operations -/
variable {i j : Int} {Q : D → Prop}
theorem so_add_0 : So0 (addD (.int i) (.int j)) Q = Q (.int (i + j)) := nr rfl
theorem so_sub_0 : So0 (subI (.int i) (.int j)) Q = Q (.int (i - j)) := nr rfl
theorem so_addN_0 : So0 (addN (.int i) (.int j)) Q = Q (.int (i + j)) := nr rfl
theorem so_subN_0 : So0 (subN (.int i) (.int j)) Q = Q (.int (i - j)) := nr rfl
theorem so_mul_0 : So0 (mulI (.int i) (.int j)) Q = (mulC i j = true ∧ Q (.int (i * j))) := so_if_0
theorem so_div_0 : So0 (divI (.int i) (.int j)) Q = (divC i j = true ∧ Q (.int (i / j))) := so_if_0
theorem so_mod_0 : So0 (modI (.int i) (.int j)) Q = (modC i j = true ∧ Q (.int (i % j))) := so_if_0
theorem so_pow_0 : So0 (powI (.int i) (.int j)) Q = (powC i j = true ∧ Q (.int (i ^ j.toNat))) := so_if_0
theorem so_shl_0 : So0 (shlI (.int i) (.int j)) Q = (shlC i j = true ∧ Q (.int (i * 2 ^ j.toNat))) := so_if_0
theorem so_shr_0 : So0 (shrI (.int i) (.int j)) Q = (shrC i j = true ∧ Q (.int (i / 2 ^ j.toNat))) := so_if_0
theorem so_and_0 : So0 (andI (.int i) (.int j)) Q = Q (.int (Builtin.bitAnd i j)) := nr rfl
theorem so_or_0 : So0 (orI (.int i) (.int j)) Q = Q (.int (Builtin.bitOr i j)) := nr rfl
theorem so_xor_0 : So0 (xorI (.int i) (.int j)) Q = Q (.int (Builtin.bitXor i j)) := nr rfl
theorem so_lt_0 : So0 (ltI (.int i) (.int j)) Q = Q (.bool (decide (i < j))) := nr rfl
theorem so_le_0 : So0 (leI (.int i) (.int j)) Q = Q (.bool (decide (i ≤ j))) := nr rfl
theorem so_gt_0 : So0 (gtI (.int i) (.int j)) Q = Q (.bool (decide (j < i))) := nr rfl
theorem so_ge_0 : So0 (geI (.int i) (.int j)) Q = Q (.bool (decide (j ≤ i))) := nr rfl
theorem so_eqI_0 : So0 (eqD (.int i) (.int j)) Q = Q (.bool (decide (i = j))) := nr rfl
theorem so_neI_0 : So0 (neD (.int i) (.int j)) Q = Q (.bool (!decide (i = j))) := nr rfl
theorem so_neg_0 : So0 (negI (.int i)) Q = Q (.int (-i)) := nr rfl
theorem so_isN_0 {d : D} : So0 (isN d .none) Q = Q (.bool (nonB d)) := nr rfl
theorem so_notN_0 {d : D} : So0 (notN d .none) Q = Q (.bool (!nonB d)) := nr rfl
theorem non_n : nonB .none = true := nr rfl
theorem non_i : nonB (.int i) = false := nr rfl
theorem non_t {l : List D} : nonB (.tuple l) = false := nr rfl
theorem non_l {l : List D} : nonB (.list l) = false := nr rfl
theorem non_b {b : Bool} : nonB (.bool b) = false := nr rfl
theorem non_s {b : Str} : nonB (.str b) = false := nr rfl
theorem so_ixL_0 {l : List D} : So0 (ixD (.list l) (.int i)) Q = So0 (atI l i) Q := nr rfl
theorem so_ixT_0 {l : List D} : So0 (ixD (.tuple l) (.int i)) Q = So0 (atI l i) Q := nr rfl
theorem at0 {α : Type} {a : α} {l : List α} : atI (a :: l) 0 = some a := by
  unfold atI ixN; simp
theorem ixN_ofNat {n : Nat} {k : Nat} (h : k < n) : ixN n (k : Int) = some k := by
  unfold ixN
  rw [if_pos (by omega), if_pos (by omega)]
  simp
theorem at1 {α : Type} {a b : α} {l : List α} : atI (a :: b :: l) 1 = some b := by
  have : ixN (a :: b :: l).length ((1 : Nat) : Int) = some 1 := ixN_ofNat (by simp)
  unfold atI; erw [this]; rfl
theorem at2 {α : Type} {a b c : α} {l : List α} : atI (a :: b :: c :: l) 2 = some c := by
  have : ixN (a :: b :: c :: l).length ((2 : Nat) : Int) = some 2 := ixN_ofNat (by simp)
  unfold atI; erw [this]; rfl
theorem at3 {α : Type} {a b c d : α} {l : List α} : atI (a :: b :: c :: d :: l) 3 = some d := by
  have : ixN (a :: b :: c :: d :: l).length ((3 : Nat) : Int) = some 3 := ixN_ofNat (by simp)
  unfold atI; erw [this]; rfl
theorem at_nat {α : Type} {l : List α} {i : Int} {v : α} (h0 : 0 ≤ i) (h : l[i.toNat]? = some v) : atI l i = some v := by
  have := atI_nat h
  rwa [Int.toNat_of_nonneg h0] at this
theorem so_at_0 {l : List D} {i : Int} {Q : D → Prop} (h0 : 0 ≤ i) (h1 : i < l.length) (h : ∀ v, l[i.toNat]? = some v → Q v) : So0 (atI l i) Q := by
  have hlt : i.toNat < l.length := by omega
  have e : l[i.toNat]? = some l[i.toNat] := List.getElem?_eq_getElem hlt
  rw [at_nat h0 e]
  exact h _ e
theorem ixN30 : ixN 3 0 = some 0 := by decide
theorem ixN31 : ixN 3 1 = some 1 := by decide
theorem ixN32 : ixN 3 2 = some 2 := by decide
theorem ix0_0 {α : Type} {a : α} {l : List α} {Q : Nat → Prop} : So0 (ixN (a :: l).length 0) Q = Q 0 := by
  have : ixN (a :: l).length ((0 : Nat) : Int) = some 0 := ixN_ofNat (by simp)
  erw [this]; rfl
theorem ix1_0 {α : Type} {a b : α} {l : List α} {Q : Nat → Prop} : So0 (ixN (a :: b :: l).length 1) Q = Q 1 := by
  have : ixN (a :: b :: l).length ((1 : Nat) : Int) = some 1 := ixN_ofNat (by simp)
  erw [this]; rfl
theorem ix2_0 {α : Type} {a b c : α} {l : List α} {Q : Nat → Prop} : So0 (ixN (a :: b :: c :: l).length 2) Q = Q 2 := by
  have : ixN (a :: b :: c :: l).length ((2 : Nat) : Int) = some 2 := ixN_ofNat (by simp)
  erw [this]; rfl
theorem so_ixN_0 {n : Nat} {i : Int} {Q : Nat → Prop} (h0 : 0 ≤ i) (h1 : i < n) (h : Q i.toNat) : So0 (ixN n i) Q := by
  have : ixN n ((i.toNat : Nat) : Int) = some i.toNat := ixN_ofNat (by omega)
  rw [Int.toNat_of_nonneg h0] at this
  rw [this]; exact h
theorem so_tru_0 {b : Bool} {Q : Bool → Prop} : So0 (tru (.bool b)) Q = Q b := nr rfl
theorem so_iof_0 {Q : Int → Prop} : So0 (iof (.int i)) Q = Q i := nr rfl
theorem so_lof_0 {l : List D} {Q : List D → Prop} : So0 (lof (.list l)) Q = Q l := nr rfl
theorem so_itL_0 {l : List D} {Q : List D → Prop} : So0 (itD (.list l)) Q = Q l := nr rfl
theorem so_itT_0 {l : List D} {Q : List D → Prop} : So0 (itD (.tuple l)) Q = Q l := nr rfl
theorem so_r1_0 {Q : Int → Prop} : So0 (r1D [.int i]) Q = Q i := nr rfl
theorem so_r2_0 {Q : Int × Int → Prop} : So0 (r2D [.int i, .int j]) Q = Q (i, j) := nr rfl
theorem so_abs_0 : So0 (absD [.int i]) Q = Q (.int (if i < 0 then -i else i)) := nr rfl
theorem so_max_0 : So0 (maxD [.int i, .int j]) Q = Q (.int (if j > i then j else i)) := nr rfl
theorem so_min_0 : So0 (minD [.int i, .int j]) Q = Q (.int (if j < i then j else i)) := nr rfl
theorem so_intB_0 {b : Bool} : So0 (intD [.bool b]) Q = Q (.int (if b then 1 else 0)) := nr rfl
theorem so_intI_0 : So0 (intD [.int i]) Q = Q (.int i) := nr rfl
theorem ii_i : isiB "int" (.int i) = true := nr rfl
theorem ib_i : isiB "bool" (.int i) = false := nr rfl
theorem ib_b {b : Bool} : isiB "bool" (.bool b) = true := nr rfl
theorem ii_b {b : Bool} : isiB "int" (.bool b) = true := nr rfl
theorem it_t {l : List D} : isiB "tuple" (.tuple l) = true := nr rfl
theorem it_l {l : List D} : isiB "tuple" (.list l) = false := nr rfl
theorem il_l {l : List D} : isiB "list" (.list l) = true := nr rfl
theorem il_t {l : List D} : isiB "list" (.tuple l) = false := nr rfl
/-! sizes -/
theorem modC_eq : (modC i j = true) = (0 < j) := by unfold modC; simp
theorem divC_any {k : Int} (h : divC 0 j = true) : divC k j = true := by unfold divC at h ⊢; exact h
theorem divC_pos (h : divC i j = true) : 0 < j := by unfold divC at h; exact (of_decide_eq_true h : 0 < j ∧ j.natAbs.log2 < 9000).1
theorem shrC_eq : (shrC i j = true) = (0 ≤ j) := by unfold shrC; simp
theorem powC_eq : (powC i j = true) = (0 ≤ j ∧ j ≤ 1000000 ∧ i.natAbs < 18446744073709551616) := by unfold powC; simp
theorem bits_le {x : Int} {n : Nat} (h : x.natAbs < 2 ^ n) : Builtin.Int.intBits x ≤ n := by
  unfold Builtin.Int.intBits
  split
  · omega
  · rename_i hx
    have : x.natAbs ≠ 0 := by
      intro z
      exact hx (by simpa using z)
    have := (Nat.log2_lt this).mpr h
    omega
theorem mulC_of {m n : Nat} (hi : i.natAbs < 2 ^ m) (hj : j.natAbs < 2 ^ n) (h : m + n ≤ 134217728 := by decide) : mulC i j = true := by
  have := bits_le hi
  have := bits_le hj
  unfold mulC
  exact decide_eq_true (by omega)
theorem divC_of {n : Nat} (h0 : 0 < j) (hj : j.natAbs < 2 ^ n) (h : n ≤ 9000 := by decide) : divC i j = true := by
  unfold divC
  refine decide_eq_true ⟨h0, ?_⟩
  have := (Nat.log2_lt (by omega : j.natAbs ≠ 0)).mpr hj
  omega
theorem shlC_of {m : Nat} (h0 : 0 ≤ j) (hi : i.natAbs < 2 ^ m) (h : (m : Int) + j ≤ 134217728) : shlC i j = true := by
  have := bits_le hi
  unfold shlC
  exact decide_eq_true ⟨h0, by omega⟩
theorem fits_eq {n : Nat} : (fits n = true) = (n ≤ 16777216) := by unfold fits sizeLine; simp
theorem fits0 : (fits 0 = true) = True := nr (by decide)
theorem fits1 : (fits 1 = true) = True := nr (by decide)
theorem fits2 : (fits 2 = true) = True := nr (by decide)
theorem fits3 : (fits 3 = true) = True := nr (by decide)
theorem fits4 : (fits 4 = true) = True := nr (by decide)
theorem fits5 : (fits 5 = true) = True := nr (by decide)
theorem fits6 : (fits 6 = true) = True := nr (by decide)
theorem fits7 : (fits 7 = true) = True := nr (by decide)
theorem fits8 : (fits 8 = true) = True := nr (by decide)
theorem fits9 : (fits 9 = true) = True := nr (by decide)
theorem fits10 : (fits 10 = true) = True := nr (by decide)
theorem fits11 : (fits 11 = true) = True := nr (by decide)
theorem fits12 : (fits 12 = true) = True := nr (by decide)
theorem fits13 : (fits 13 = true) = True := nr (by decide)
theorem fits14 : (fits 14 = true) = True := nr (by decide)
theorem fits15 : (fits 15 = true) = True := nr (by decide)
theorem fits16 : (fits 16 = true) = True := nr (by decide)
theorem rngC_eq : (rngC i j = true) = (-(2 ^ 62) ≤ i ∧ i < 2 ^ 62 ∧ -(2 ^ 62) ≤ j ∧ j < 2 ^ 62) := by unfold rngC; simp
theorem rgC_eq : (rgC i j = true) = (-(2 ^ 62) ≤ i ∧ i < 2 ^ 62 ∧ -(2 ^ 62) ≤ j ∧ j < 2 ^ 62 ∧ (j - i).toNat ≤ 2 ^ 24) := by unfold rgC; simp
/-- xs + ys -/
theorem so_cat_0 {l k : List D} : So0 (addD (.list l) (.list k)) Q = (fits (l.length + k.length) = true ∧ Q (.list (l ++ k))) := by
  show So0 (if fits (l.length + k.length) then some (PyData.list (l ++ k)) else none) Q = _
  exact so_if_0
end
end Z
set_option Elab.async false
set_option linter.all false
set_option maxRecDepth 100000
namespace Z
open PySem L2
section
variable {s : DS} {Nx : DS → Prop} {Rt : D → DS → Prop} {Bk Ct : DS → Prop} {Ex : Xc → DS → Prop} {Q : DS → Prop}
theorem so_gN_0 {i : Nat} {d : D} : So0 (gN i d s) Q = Q (s.set i (some d)) := nr rfl
theorem so_gT_0 {n : Nat} {g : List D → DS → Option DS} {xs : List D} : So0 (gT n g (.tuple xs) s) Q = (xs.length = n ∧ So0 (g xs s) Q) := so_dec_0
theorem so_gL_0 {n : Nat} {g : List D → DS → Option DS} {xs : List D} : So0 (gL n g (.list xs) s) Q = (xs.length = n ∧ So0 (g xs s) Q) := so_dec_0
theorem so_gC_0 {a : MG} {r : List D → DS → Option DS} {x : D} {ys : List D} : So0 (gC a r (x :: ys) s) Q = So0 (a x s) fun s' => So0 (r ys s') Q := by
  show So0 (match a x s with | some s' => r ys s' | none => none) Q = _
  cases a x s <;> rfl
theorem so_gE_0 : So0 (gE [] s) Q = Q s := nr rfl
/-- a for behind its expression -/
def Fo0 (xs : List D) (s : DS) (g : MG) (b : MS) (Nx : DS → Prop) (Rt : D → DS → Prop) (Bk Ct : DS → Prop) (Ex : Xc → DS → Prop) (_ : W5 g b Nx Rt (Bk, Ct, Ex) := Unit.unit) : Prop := Run0 (loop g b xs) s Nx Rt Bk Ct Ex
theorem run_fo_0 {mi : M (List D)} {g : MG} {b : MS} : Run0 (sFor mi g b) s Nx Rt Bk Ct Ex = Ev0 mi s fun xs s' => Fo0 xs s' g b Nx Rt Bk Ct Ex := by
  unfold Run0 sFor Ev0 Fo0 Run0
  cases mi s <;> rfl
theorem for_it_0 {g : MG} {b : MS} {xs : List D} (I : Nat → DS → Prop) (h0 : I 0 s)
    (ht : ∀ (i : Nat) (d : D) (s1 : DS), xs[i]? = some d → I i s1 → So0 (g d s1) fun s2 => Run0 b s2 (I (i + 1)) Rt Nx (I (i + 1)) Ex) (he : ∀ s1, I xs.length s1 → Nx s1) :
    Fo0 xs s g b Nx Rt Bk Ct Ex := by
  have h := run_for_0 (mi := fun s => R.ok xs s) (Bk := Bk) (Ct := Ct) (Ex := Ex) I rfl h0 ht he
  unfold Fo0
  exact h
theorem for_rg_0 {g : MG} {b : MS} {a c : Int} (I : Nat → DS → Prop) (h0 : I 0 s)
    (ht : ∀ (i : Nat) (s1 : DS), a + i < c → I i s1 → So0 (g (.int (a + i)) s1) fun s2 => Run0 b s2 (I (i + 1)) Rt Nx (I (i + 1)) Ex) (he : ∀ s1, I (c - a).toNat s1 → Nx s1) :
    Fo0 (rgD a c) s g b Nx Rt Bk Ct Ex := by
  refine for_it_0 I h0 (fun i d s1 h hI => ?_) fun s1 h => he s1 (by rwa [rgD_len] at h)
  obtain ⟨hlt, rfl⟩ := rgD_get h
  exact ht i s1 (by omega) hI
/-- over range(c) -/
theorem for_r0_0 {g : MG} {b : MS} {c : Int} (I : Nat → DS → Prop) (h0 : I 0 s)
    (ht : ∀ (i : Nat) (s1 : DS), (i : Int) < c → I i s1 → So0 (g (.int i) s1) fun s2 => Run0 b s2 (I (i + 1)) Rt Nx (I (i + 1)) Ex) (he : ∀ s1, I c.toNat s1 → Nx s1) :
    Fo0 (rgD 0 c) s g b Nx Rt Bk Ct Ex :=
  for_rg_0 I h0 (fun i s1 h hI => by have := ht i s1 (by omega) hI; rwa [Int.zero_add]) fun s1 h => he s1 (by rwa [Int.sub_zero] at h)
/-- over nothing -/
theorem for_nil_0 {g : MG} {b : MS} (h : Nx s) : Fo0 [] s g b Nx Rt Bk Ct Ex := for_it_0 (fun _ s1 => s1 = s) rfl (fun i d s1 hd => by simp at hd) fun s1 e => by subst e; exact h
/-- while -/
def Wh0 (t : M Bool) (b : MS) (s : DS) (Nx : DS → Prop) (Rt : D → DS → Prop) (Bk Ct : DS → Prop) (Ex : Xc → DS → Prop) (_ : W5 t b Nx Rt (Bk, Ct, Ex) := Unit.unit) : Prop := Run0 (sWhile t b) s Nx Rt Bk Ct Ex
theorem run_wh_0 {t : M Bool} {b : MS} : Run0 (sWhile t b) s Nx Rt Bk Ct Ex = Wh0 t b s Nx Rt Bk Ct Ex := by unfold Wh0; exact nr rfl
theorem wh_by_0 {t : M Bool} {b : MS} (I : DS → Prop) (μ : DS → Nat) (h0 : I s)
    (ht : ∀ s1, I s1 → Ev0 t s1 fun x s2 => Br0 x (Run0 b s2 (fun s3 => I s3 ∧ μ s3 < μ s1) Rt Nx (fun s3 => I s3 ∧ μ s3 < μ s1) Ex) (Nx s2)) : Wh0 t b s Nx Rt Bk Ct Ex := by
  unfold Wh0
  exact run_while_0 I μ h0 ht
theorem divL {i j : Int} (h : 0 < j ∧ j < 18446744073709551616 := by decide) : divC i j = true := divC_of (n := 64) h.1 (by omega)
theorem so_lenL_0 {l : List D} {Q : D → Prop} : So0 (lenD [.list l]) Q = Q (.int l.length) := nr rfl
theorem so_lenT_0 {l : List D} {Q : D → Prop} : So0 (lenD [.tuple l]) Q = Q (.int l.length) := nr rfl
theorem so_slL_0 {l : List D} {lo hi : Option Int} {Q : D → Prop} : So0 (slD (.list l) lo hi) Q = Q (.list (cutD l lo hi)) := nr rfl
theorem cut_mem {l : List D} {lo hi : Option Int} {i : Nat} {d : D} (h : (cutD l lo hi)[i]? = some d) : d ∈ l := by
  have := List.mem_of_getElem? h
  unfold cutD at this
  exact List.mem_of_mem_drop (List.mem_of_mem_take this)
theorem Cl0.out_0 {f : FD} {xs : List D} {Q : D → List D → Prop} (h : Cl0 f xs Q) : ∃ d as, f xs = .ok d as ∧ Q d as := h
theorem nab10 : (Int.natAbs 10 < 18446744073709551616) = True := nr (by decide)
theorem nab2 : (Int.natAbs 2 < 18446744073709551616) = True := nr (by decide)
theorem nap2 (n : Nat) : (2 : Int) ^ n = ((2 ^ n : Nat) : Int) := by simp
theorem abs_pow2 {n : Nat} {x : Int} (h0 : 0 ≤ x) (h : x < 2 ^ n) : x.natAbs < 2 ^ n := by
  rw [nap2] at h
  omega
theorem pow2_pos (n : Nat) : (0 : Int) < 2 ^ n := by
  rw [nap2]
  have := Nat.two_pow_pos n
  omega
theorem pow2_le {m n : Nat} (h : m ≤ n) : (2 : Int) ^ m ≤ 2 ^ n := by
  rw [nap2, nap2]
  exact_mod_cast Nat.pow_le_pow_right (by omega) h
theorem pow2_abs {m n : Nat} (h : m < n) : ((2 : Int) ^ m).natAbs < 2 ^ n := by
  rw [nap2, Int.natAbs_natCast]
  exact Nat.pow_lt_pow_right (by omega) h
/-- 1 << n -/
theorem shl1C {n : Nat} (h : n ≤ 1000000) : shlC 1 n = true := shlC_of (m := 1) (by omega) (by decide) (by omega)
theorem one_shl (n : Nat) : (1 : Int) * 2 ^ ((n : Int).toNat) = 2 ^ n := by rw [Int.toNat_natCast, Int.one_mul]
theorem so_map_0 {α β : Type} {o : Option α} {f : α → β} {Q : β → Prop} : So0 (o.map f) Q = So0 o fun a => Q (f a) := by cases o <;> rfl
end
end Z
set_option Elab.async false
set_option linter.all false
set_option maxRecDepth 100000
namespace Z
open PySem L2
/-! ### in, of flat things -/
def flatD : D → Bool
  | .none => true
  | .bool _ => true
  | .int _ => true
  | .str _ => true
  | _ => false
def eqF : D → D → Bool
  | .none, .none => true
  | .bool a, .bool b => a == b
  | .bool a, .int b => (if a then 1 else 0) == b
  | .int a, .bool b => a == (if b then 1 else 0)
  | .int a, .int b => a == b
  | .str a, .str b => a == b
  | _, _ => false
def inD : D → D → Option D
  | x, .list ys => if flatD x && ys.all flatD then some (.bool (ys.any fun y => eqF y x)) else none
  | x, .tuple ys => if flatD x && ys.all flatD then some (.bool (ys.any fun y => eqF y x)) else none
  | _, _ => none
def notInD : D → D → Option D
  | x, .list ys => if flatD x && ys.all flatD then some (.bool (!ys.any fun y => eqF y x)) else none
  | x, .tuple ys => if flatD x && ys.all flatD then some (.bool (!ys.any fun y => eqF y x)) else none
  | _, _ => none
section
variable {K : Fg} {F : Hp}
theorem flat_dp {v : V} {d : D} (h : Dp K F v d) (f : flatD d = true) : flatV v = true := by
  cases h <;> first | rfl | exact absurd f (by simp [flatD])
theorem eqF_dp {v u : V} {d e : D} (h : Dp K F v d) (g : Dp K F u e) (f1 : flatD d = true) (f2 : flatD e = true) : eqV v u = eqF d e := by
  cases h <;> cases g <;> first | rfl | exact absurd f1 (by simp [flatD]) | exact absurd f2 (by simp [flatD])
theorem flats_dp : ∀ {vs : List V} {ds : List D}, DpAll K F vs ds → ds.all flatD = true → vs.all flatV = true
  | _, _, .nil, _ => rfl
  | _, _, .cons h t, f => by
    rw [List.all_cons, Bool.and_eq_true] at f ⊢
    exact ⟨flat_dp h f.1, flats_dp t f.2⟩
theorem any_dp {x : V} {dx : D} (hx : Dp K F x dx) (fx : flatD dx = true) : ∀ {vs : List V} {ds : List D}, DpAll K F vs ds → ds.all flatD = true → (vs.any fun y => eqV y x) = ds.any fun y => eqF y dx
  | _, _, .nil, _ => rfl
  | _, _, .cons h t, f => by
    rw [List.all_cons, Bool.and_eq_true] at f
    rw [List.any_cons, List.any_cons, eqF_dp h hx f.1 fx, any_dp hx fx t f.2]
theorem vw_flat {H : Hp} {x : V} {d : D} (h : Vw K F H x d) (f : flatD d = true) : Dp K F x d := by
  rcases h with h | ⟨p, xs, ds, rfl, rfl, hp, al⟩
  · exact h
  · exact absurd f (by simp [flatD])
theorem g_in : OpG K (rIn K false) inD := fun F H x y dx dy d sF vx vy e Q q => by
  unfold inD at e
  split at e
  · split at e
    · rename_i hf
      rw [Bool.and_eq_true] at hf
      cases e
      obtain ⟨p, xs, rfl, sq, al⟩ := vy.lst sF
      have dx := vw_flat vx hf.1
      refine ⟨p, xs, rfl, .inl sq, flat_dp dx hf.1, flats_dp al hf.2, ?_⟩
      unfold inV
      rw [any_dp dx hf.1 al hf.2]
      exact q F H _ .refl (.bl _)
    · cases e
  · split at e
    · rename_i hf
      rw [Bool.and_eq_true] at hf
      cases e
      obtain ⟨p, xs, rfl, sq, al⟩ := vy.tup sF
      have dx := vw_flat vx hf.1
      refine ⟨p, xs, rfl, .inr sq, flat_dp dx hf.1, flats_dp al hf.2, ?_⟩
      unfold inV
      rw [any_dp dx hf.1 al hf.2]
      exact q F H _ .refl (.bl _)
    · cases e
  · cases e
theorem g_notIn : OpG K (rIn K true) notInD := fun F H x y dx dy d sF vx vy e Q q => by
  unfold notInD at e
  split at e
  · split at e
    · rename_i hf
      rw [Bool.and_eq_true] at hf
      cases e
      obtain ⟨p, xs, rfl, sq, al⟩ := vy.lst sF
      have dx := vw_flat vx hf.1
      refine ⟨p, xs, rfl, .inl sq, flat_dp dx hf.1, flats_dp al hf.2, ?_⟩
      unfold inV
      rw [any_dp dx hf.1 al hf.2]
      exact q F H _ .refl (.bl _)
    · cases e
  · split at e
    · rename_i hf
      rw [Bool.and_eq_true] at hf
      cases e
      obtain ⟨p, xs, rfl, sq, al⟩ := vy.tup sF
      have dx := vw_flat vx hf.1
      refine ⟨p, xs, rfl, .inr sq, flat_dp dx hf.1, flats_dp al hf.2, ?_⟩
      unfold inV
      rw [any_dp dx hf.1 al hf.2]
      exact q F H _ .refl (.bl _)
    · cases e
  · cases e
end
section
variable {Q : D → Prop} {x : D} {l : List D}
theorem so_inL_0 : So0 (inD x (.list l)) Q = ((flatD x && l.all flatD) = true ∧ Q (.bool (l.any fun y => eqF y x))) := by
  show So0 (if (flatD x && l.all flatD) = true then some (PyData.bool (l.any fun y => eqF y x)) else none) Q = _
  exact so_if_0
theorem so_inT_0 : So0 (inD x (.tuple l)) Q = ((flatD x && l.all flatD) = true ∧ Q (.bool (l.any fun y => eqF y x))) := by
  show So0 (if (flatD x && l.all flatD) = true then some (PyData.bool (l.any fun y => eqF y x)) else none) Q = _
  exact so_if_0
theorem so_ninL_0 : So0 (notInD x (.list l)) Q = ((flatD x && l.all flatD) = true ∧ Q (.bool (!l.any fun y => eqF y x))) := by
  show So0 (if (flatD x && l.all flatD) = true then some (PyData.bool (!l.any fun y => eqF y x)) else none) Q = _
  exact so_if_0
theorem so_ninT_0 : So0 (notInD x (.tuple l)) Q = ((flatD x && l.all flatD) = true ∧ Q (.bool (!l.any fun y => eqF y x))) := by
  show So0 (if (flatD x && l.all flatD) = true then some (PyData.bool (!l.any fun y => eqF y x)) else none) Q = _
  exact so_if_0
end
end Z
set_option Elab.async false
set_option linter.all false
set_option maxRecDepth 100000
namespace Z
open PySem L2
/-! ### the same, closed: nothing looks into them by itself -/
@[irreducible] def Ev {α : Type} (m : M α) (s : DS) (Q : α → DS → Prop) (_ : W2 m Q := Unit.unit) : Prop := Ev0 m s Q
@[irreducible] def Run (b : MS) (s : DS) (Nx : DS → Prop) (Rt : D → DS → Prop) (Bk Ct : DS → Prop) (Ex : Xc → DS → Prop) (_ : W5 b Nx Rt Bk (Ct, Ex) := Unit.unit) : Prop := Run0 b s Nx Rt Bk Ct Ex
@[irreducible] def So {α : Type} (o : Option α) (Q : α → Prop) (_ : W1 Q := Unit.unit) : Prop := So0 o Q
@[irreducible] def Br (x : Bool) (A B : Prop) (_ : W2 A B := Unit.unit) : Prop := Br0 x A B
@[irreducible] def Cl (f : FD) (xs : List D) (Q : D → List D → Prop) (_ : W2 f Q := Unit.unit) : Prop := Cl0 f xs Q
@[irreducible] def Fo (xs : List D) (s : DS) (g : MG) (b : MS) (Nx : DS → Prop) (Rt : D → DS → Prop) (Bk Ct : DS → Prop) (Ex : Xc → DS → Prop) (_ : W5 g b Nx Rt (Bk, Ct, Ex) := Unit.unit) : Prop := Fo0 xs s g b Nx Rt Bk Ct Ex
@[irreducible] def Wh (t : M Bool) (b : MS) (s : DS) (Nx : DS → Prop) (Rt : D → DS → Prop) (Bk Ct : DS → Prop) (Ex : Xc → DS → Prop) (_ : W5 t b Nx Rt (Bk, Ct, Ex) := Unit.unit) : Prop := Wh0 t b s Nx Rt Bk Ct Ex
theorem br_t {A B : Prop} : Br true A B = A := by with_unfolding_all exact br_t_0
theorem br_f {A B : Prop} : Br false A B = B := by with_unfolding_all exact br_f_0
theorem br_i {x : Bool} {A B : Prop} (h1 : x = true → A) (h2 : x = false → B) : Br x A B := by with_unfolding_all exact br_i_0 h1 h2
theorem br_d {p : Prop} [Decidable p] {A B : Prop} (h1 : p → A) (h2 : ¬ p → B) : Br (decide p) A B := br_i (fun h => h1 (of_decide_eq_true h)) fun h => h2 (of_decide_eq_false h)
theorem br_y {p : Prop} [Decidable p] {A B : Prop} (h : p) (h1 : A) : Br (decide p) A B := br_d (fun _ => h1) fun z => absurd h z
theorem br_n {p : Prop} [Decidable p] {A B : Prop} (h : ¬ p) (h1 : B) : Br (decide p) A B := br_d (fun z => absurd z h) fun _ => h1
/-- not p: the way of a test that holds is not taken -/
theorem br_ny {p : Prop} [Decidable p] {A B : Prop} (h : p) (h1 : B) : Br (!decide p) A B := br_i (fun z => by simp [h] at z) fun _ => h1
theorem br_nn {p : Prop} [Decidable p] {A B : Prop} (h : ¬ p) (h1 : A) : Br (!decide p) A B := br_i (fun _ => h1) fun z => by simp [h] at z
theorem br_nd {p : Prop} [Decidable p] {A B : Prop} (h1 : ¬ p → A) (h2 : p → B) : Br (!decide p) A B := br_i (fun h => h1 (by simpa using h)) fun h => h2 (by simpa using h)
theorem Cl.of {f : FD} {xs : List D} {Q : D → List D → Prop} {d : D} {as : List D} (h : f xs = .ok d as) (q : Q d as) : Cl f xs Q := by with_unfolding_all exact ⟨d, as, h, q⟩
theorem Cl.out {f : FD} {xs : List D} {Q : D → List D → Prop} (h : Cl f xs Q) : ∃ d as, f xs = .ok d as ∧ Q d as := by with_unfolding_all exact h
theorem Cl.mono {f : FD} {xs : List D} {Q Q' : D → List D → Prop} (h : Cl f xs Q) (g : ∀ d as, Q d as → Q' d as) : Cl f xs Q' := by
  obtain ⟨d, as, e, q⟩ := h.out
  exact .of e (g d as q)
theorem ev_mono {α : Type} {m : M α} {s : DS} {Q Q' : α → DS → Prop} (h : Ev m s Q) (f : ∀ a s', Q a s' → Q' a s') : Ev m s Q' := by with_unfolding_all exact ev_mono_0 h f
theorem run_mono {b : MS} {s : DS} {Nx Bk Ct : DS → Prop} {Ex : Xc → DS → Prop} {Rt : D → DS → Prop} {Nx' Bk' Ct' : DS → Prop} {Ex' : Xc → DS → Prop} {Rt' : D → DS → Prop} (h : Run b s Nx Rt Bk Ct Ex) (f1 : ∀ s', Nx s' → Nx' s') (f2 : ∀ d s', Rt d s' → Rt' d s') (f3 : ∀ s', Bk s' → Bk' s') (f4 : ∀ s', Ct s' → Ct' s') (f5 : ∀ x s', Ex x s' → Ex' x s') : Run b s Nx' Rt' Bk' Ct' Ex' := by with_unfolding_all exact run_mono_0 h f1 f2 f3 f4 f5
theorem fn_cl {N n : Nat} {rk : Kd} {b : MS} {args : List D} {Q : D → List D → Prop} (hl : args.length = n) (h : Run b (entry N args) (fun s => rk = .sh ∧ So ((List.range n).mapM (look s)) fun as => Q .none as) (fun d s => So ((List.range n).mapM (look s)) fun as => Q d as) (fun _ => False) (fun _ => False) (fun _ _ => False)) :
    Cl (fnD N n rk b) args Q := by with_unfolding_all exact fn_cl_0 hl h
theorem so_at {l : List D} {i : Int} {Q : D → Prop} (h0 : 0 ≤ i) (h1 : i < l.length) (h : ∀ v, l[i.toNat]? = some v → Q v) : So (atI l i) Q := by with_unfolding_all exact so_at_0 h0 h1 h
theorem so_ixN {n : Nat} {i : Int} {Q : Nat → Prop} (h0 : 0 ≤ i) (h1 : i < n) (h : Q i.toNat) : So (ixN n i) Q := by with_unfolding_all exact so_ixN_0 h0 h1 h
section
variable {s : DS} {Nx : DS → Prop} {Rt : D → DS → Prop} {Bk Ct : DS → Prop} {Ex : Xc → DS → Prop}
theorem for_it {g : MG} {b : MS} {xs : List D} (I : Nat → DS → Prop) (h0 : I 0 s)
    (ht : ∀ (i : Nat) (d : D) (s1 : DS), xs[i]? = some d → I i s1 → So (g d s1) fun s2 => Run b s2 (I (i + 1)) Rt Nx (I (i + 1)) Ex) (he : ∀ s1, I xs.length s1 → Nx s1) :
    Fo xs s g b Nx Rt Bk Ct Ex := by with_unfolding_all exact for_it_0 I h0 ht he
theorem for_rg {g : MG} {b : MS} {a c : Int} (I : Nat → DS → Prop) (h0 : I 0 s)
    (ht : ∀ (i : Nat) (s1 : DS), a + i < c → I i s1 → So (g (.int (a + i)) s1) fun s2 => Run b s2 (I (i + 1)) Rt Nx (I (i + 1)) Ex) (he : ∀ s1, I (c - a).toNat s1 → Nx s1) :
    Fo (rgD a c) s g b Nx Rt Bk Ct Ex := by with_unfolding_all exact for_rg_0 I h0 ht he
theorem for_r0 {g : MG} {b : MS} {c : Int} (I : Nat → DS → Prop) (h0 : I 0 s)
    (ht : ∀ (i : Nat) (s1 : DS), (i : Int) < c → I i s1 → So (g (.int i) s1) fun s2 => Run b s2 (I (i + 1)) Rt Nx (I (i + 1)) Ex) (he : ∀ s1, I c.toNat s1 → Nx s1) :
    Fo (rgD 0 c) s g b Nx Rt Bk Ct Ex := by with_unfolding_all exact for_r0_0 I h0 ht he
theorem for_nil {g : MG} {b : MS} (h : Nx s) : Fo [] s g b Nx Rt Bk Ct Ex := by with_unfolding_all exact for_nil_0 h
theorem wh_by {t : M Bool} {b : MS} (I : DS → Prop) (μ : DS → Nat) (h0 : I s)
    (ht : ∀ s1, I s1 → Ev t s1 fun x s2 => Br x (Run b s2 (fun s3 => I s3 ∧ μ s3 < μ s1) Rt Nx (fun s3 => I s3 ∧ μ s3 < μ s1) Ex) (Nx s2)) : Wh t b s Nx Rt Bk Ct Ex := by with_unfolding_all exact wh_by_0 I μ h0 ht
end
section
variable {α β : Type} {s : DS} {Nx Bk Ct : DS → Prop} {Ex : Xc → DS → Prop} {Rt : D → DS → Prop}
theorem so_some {a : α} {Q : α → Prop} : So (some a) Q = Q a := by with_unfolding_all exact so_some_0
theorem so_none {Q : α → Prop} : So (none : Option α) Q = False := by with_unfolding_all exact so_none_0
theorem so_if {c : Bool} {o : Option α} {Q : α → Prop} : So (if c = true then o else none) Q = (c = true ∧ So o Q) := by with_unfolding_all exact so_if_0
theorem so_dec {c : Prop} [Decidable c] {o : Option α} {Q : α → Prop} : So (if c then o else none) Q = (c ∧ So o Q) := by with_unfolding_all exact so_dec_0
theorem ev_bnd {m : M α} {f : α → M β} {Q : β → DS → Prop} : Ev (bnd m f) s Q = Ev m s fun a s' => Ev (f a) s' Q := by with_unfolding_all exact ev_bnd_0
theorem ev_ok {a : α} {Q : α → DS → Prop} : Ev (fun s => R.ok a s) s Q = Q a s := by with_unfolding_all exact ev_ok_0
theorem ev_opt {o : Option α} {Q : α → DS → Prop} : Ev (opt o) s Q = So o fun a => Q a s := by with_unfolding_all exact ev_opt_0
theorem ev_var {i : Nat} {Q : D → DS → Prop} : Ev (mVar i) s Q = So (look s i) fun d => Q d s := by with_unfolding_all exact ev_var_0
theorem ev_C {d : D} {Q : D → DS → Prop} : Ev (mC d) s Q = Q d s := by with_unfolding_all exact ev_C_0
theorem ev_V {m : M D} {Q : BR → DS → Prop} : Ev (mV m) s Q = Ev m s fun d s' => Q (.val d) s' := by with_unfolding_all exact ev_V_0
theorem ev_slot {i : Nat} {Q : BR → DS → Prop} : Ev (mSlot i) s Q = So (look s i) fun _ => Q (.slot i) s := by with_unfolding_all exact ev_slot_0
theorem ev_op {f : D → D → Option D} {a b : M BR} {Q : D → DS → Prop} : Ev (mOp f a b) s Q = Ev a s fun x s1 => Ev b s1 fun y s2 => So (res s2 x) fun dx => So (res s2 y) fun dy => So (f dx dy) fun d => Q d s2 := by with_unfolding_all exact ev_op_0
theorem ev_un {f : D → Option D} {a : M BR} {Q : D → DS → Prop} : Ev (mUn f a) s Q = Ev a s fun x s1 => So (res s1 x) fun dx => So (f dx) fun d => Q d s1 := by with_unfolding_all exact ev_un_0
theorem ev_B {m : M D} {Q : Bool → DS → Prop} : Ev (mB m) s Q = Ev m s fun d s' => So (tru d) fun b => Q b s' := by with_unfolding_all exact ev_B_0
theorem ev_not {a : M Bool} {Q : Bool → DS → Prop} : Ev (mNot a) s Q = Ev a s fun x s' => Q (!x) s' := by with_unfolding_all exact ev_not_0
theorem ev_notV {a : M D} {Q : D → DS → Prop} : Ev (mNotV a) s Q = Ev (mB a) s fun x s' => Q (.bool (!x)) s' := by with_unfolding_all exact ev_notV_0
theorem ev_nil {Q : List D → DS → Prop} : Ev mNil s Q = Q [] s := by with_unfolding_all exact ev_nil_0
theorem ev_cons {a : M D} {r : M (List D)} {Q : List D → DS → Prop} : Ev (mCons a r) s Q = Ev a s fun x s1 => Ev r s1 fun xs s2 => Q (x :: xs) s2 := by with_unfolding_all exact ev_cons_0
theorem ev_nilB {Q : List BR → DS → Prop} : Ev mNilB s Q = Q [] s := by with_unfolding_all exact ev_nilB_0
theorem ev_consB {a : M BR} {r : M (List BR)} {Q : List BR → DS → Prop} : Ev (mConsB a r) s Q = Ev a s fun x s1 => Ev r s1 fun xs s2 => Q (x :: xs) s2 := by with_unfolding_all exact ev_consB_0
theorem ev_tup {a : M (List D)} {Q : D → DS → Prop} : Ev (mTup a) s Q = Ev a s fun xs s' => fits xs.length = true ∧ Q (.tuple xs) s' := by with_unfolding_all exact ev_tup_0
theorem ev_lst {a : M (List D)} {Q : D → DS → Prop} : Ev (mLst a) s Q = Ev a s fun xs s' => fits xs.length = true ∧ Q (.list xs) s' := by with_unfolding_all exact ev_lst_0
theorem ev_B1 {f : List D → Option D} {a : M (List BR)} {Q : D → DS → Prop} : Ev (mB1 f a) s Q = Ev a s fun xs s' => So (xs.mapM (res s')) fun ds => So (f ds) fun d => Q d s' := by with_unfolding_all exact ev_B1_0
theorem ev_sl {a : M BR} {lo hi : M (Option Int)} {Q : D → DS → Prop} : Ev (mSl a lo hi) s Q = Ev a s fun x s1 => Ev lo s1 fun l s2 => Ev hi s2 fun h s3 => So (res s3 x) fun d => So (slD d l h) fun r => Q r s3 := by with_unfolding_all exact ev_sl_0
theorem ev_P0 {Q : Option Int → DS → Prop} : Ev mP0 s Q = Q none s := by with_unfolding_all exact ev_P0_0
theorem ev_P1 {m : M D} {Q : Option Int → DS → Prop} : Ev (mP1 m) s Q = Ev m s fun d s' => So (iof d) fun i => Q (some i) s' := by with_unfolding_all exact ev_P1_0
theorem ev_Rg1 {m : M D} {Q : Int × Int → DS → Prop} : Ev (mRg1 m) s Q = Ev m s fun d s' => So (iof d) fun i => Q (0, i) s' := by with_unfolding_all exact ev_Rg1_0
theorem ev_Rg2 {m n : M D} {Q : Int × Int → DS → Prop} : Ev (mRg2 m n) s Q = Ev m s fun d s1 => Ev n s1 fun e s' => So (iof d) fun i => So (iof e) fun j => Q (i, j) s' := by with_unfolding_all exact ev_Rg2_0
theorem ev_LstRg {m : M (Int × Int)} {Q : D → DS → Prop} : Ev (mLstRg m) s Q = Ev m s fun p s' => rgC p.1 p.2 = true ∧ Q (.list (rgD p.1 p.2)) s' := by with_unfolding_all exact ev_LstRg_0
theorem ev_It {m : M D} {Q : List D → DS → Prop} : Ev (mIt m) s Q = Ev m s fun d s' => So (itD d) fun xs => Q xs s' := by with_unfolding_all exact ev_It_0
theorem ev_R1 {m : M (List D)} {Q : List D → DS → Prop} : Ev (mR1 m) s Q = Ev m s fun d s' => So (r1D d) fun j => rngC 0 j = true ∧ Q (rgD 0 j) s' := by with_unfolding_all exact ev_R1_0
theorem ev_R2 {m : M (List D)} {Q : List D → DS → Prop} : Ev (mR2 m) s Q = Ev m s fun d s' => So (r2D d) fun p => rngC p.1 p.2 = true ∧ Q (rgD p.1 p.2) s' := by with_unfolding_all exact ev_R2_0
theorem run_nx : Run sNx s Nx Rt Bk Ct Ex = Nx s := by with_unfolding_all exact run_nx_0
theorem run_no : Run sNo s Nx Rt Bk Ct Ex = False := by with_unfolding_all exact run_no_0
theorem run_bk : Run sBk s Nx Rt Bk Ct Ex = Bk s := by with_unfolding_all exact run_bk_0
theorem run_ct : Run sCt s Nx Rt Bk Ct Ex = Ct s := by with_unfolding_all exact run_ct_0
theorem run_seq {a b : MS} : Run (sSeq a b) s Nx Rt Bk Ct Ex = Run a s (fun s' => Run b s' Nx Rt Bk Ct Ex) Rt Bk Ct Ex := by with_unfolding_all exact run_seq_0
theorem run_set {i : Nat} {m : M D} : Run (sSet i m) s Nx Rt Bk Ct Ex = Ev m s fun d s' => Nx (s'.set i (some d)) := by with_unfolding_all exact run_set_0
theorem run_drop {m : M D} : Run (sDrop m) s Nx Rt Bk Ct Ex = Ev m s fun _ s' => Nx s' := by with_unfolding_all exact run_drop_0
theorem run_ret {m : M D} : Run (sRet m) s Nx Rt Bk Ct Ex = Ev m s fun d s' => Rt d s' := by with_unfolding_all exact run_ret_0
theorem run_asg {m : M D} {g : MG} : Run (sAsg m g) s Nx Rt Bk Ct Ex = Ev m s fun d s' => So (g d s') fun s2 => Nx s2 := by with_unfolding_all exact run_asg_0
theorem run_app {i : Nat} {m : M D} : Run (sApp i m) s Nx Rt Bk Ct Ex = So (look s i) fun d0 => So (lof d0) fun _ => Ev m s fun d s' => So (look s' i) fun d1 => So (lof d1) fun xs => decide (xs.length < sizeLine) = true ∧ Nx (s'.set i (some (.list (xs ++ [d])))) := by with_unfolding_all exact run_app_0
theorem run_put {i : Nat} {me m : M D} : Run (sPut i me m) s Nx Rt Bk Ct Ex = Ev m s fun d s1 => So (look s1 i) fun d0 => So (lof d0) fun _ => Ev me s1 fun k s2 => So (iof k) fun z => So (look s2 i) fun d1 => So (lof d1) fun xs => So (ixN xs.length z) fun j => Nx (s2.set i (some (.list (xs.set j d)))) := by with_unfolding_all exact run_put_0
theorem run_aug {i : Nat} {f : D → D → Option D} {m : M D} : Run (sAug i f m) s Nx Rt Bk Ct Ex = So (look s i) fun x => Ev m s fun y s' => So (f x y) fun z => Nx (s'.set i (some z)) := by with_unfolding_all exact run_aug_0
theorem run_frz {i : Nat} {b : MS} : Run (sFrz i b) s Nx Rt Bk Ct Ex = So (look s i) fun _ => Run b s Nx Rt Bk Ct Ex := by with_unfolding_all exact run_frz_0
theorem run_kill {i : Nat} {b : MS} : Run (sKill i b) s Nx Rt Bk Ct Ex = Run b (s.set i none) Nx Rt Bk Ct Ex := by with_unfolding_all exact run_kill_0
end
section
variable {s : DS} {Nx : DS → Prop} {Rt : D → DS → Prop} {Bk Ct : DS → Prop} {Ex : Xc → DS → Prop}
theorem so_bind {α β : Type} {o : Option α} {f : α → Option β} {Q : β → Prop} : So (o >>= f) Q = So o fun a => So (f a) Q := by with_unfolding_all exact so_bind_0
theorem so_pure {α : Type} {a : α} {Q : α → Prop} : So (pure a) Q = Q a := by with_unfolding_all exact so_pure_0
theorem so_mapN {α β : Type} {f : α → Option β} {Q : List β → Prop} : So (List.mapM f []) Q = Q [] := by with_unfolding_all exact so_mapN_0
theorem so_mapC {α β : Type} {f : α → Option β} {x : α} {l : List α} {Q : List β → Prop} : So (List.mapM f (x :: l)) Q = So (f x) fun a => So (List.mapM f l) fun as => Q (a :: as) := by with_unfolding_all exact so_mapC_0
theorem lks_eq {n : Nat} {Q : List D → Prop} : So ((List.range n).mapM (look s)) Q = So ((List.range' 0 n).mapM (look s)) Q := by with_unfolding_all exact lks_eq_0
theorem xv_and {a b : M Bool} {Q : Bool → DS → Prop} : Ev (mAnd a b) s Q = Ev a s fun x s' => Br x (Ev b s' Q) (Q false s') := by with_unfolding_all exact xv_and_0
theorem xv_or {a b : M Bool} {Q : Bool → DS → Prop} : Ev (mOr a b) s Q = Ev a s fun x s' => Br x (Q true s') (Ev b s' Q) := by with_unfolding_all exact xv_or_0
theorem xv_andV {a b : M D} {Q : D → DS → Prop} : Ev (mAndV a b) s Q = Ev (mB a) s fun x s' => Br x (Ev b s' Q) (Q (.bool false) s') := by with_unfolding_all exact xv_andV_0
theorem xv_orV {a b : M D} {Q : D → DS → Prop} : Ev (mOrV a b) s Q = Ev (mB a) s fun x s' => Br x (Q (.bool true) s') (Ev b s' Q) := by with_unfolding_all exact xv_orV_0
theorem xv_if {t : M Bool} {a b : M D} {Q : D → DS → Prop} : Ev (mIf t a b) s Q = Ev t s fun x s' => Br x (Ev a s' Q) (Ev b s' Q) := by with_unfolding_all exact xv_if_0
theorem xv_chain {f g : D → D → Option D} {a b c : M D} {Q : D → DS → Prop} : Ev (mChain f g a b c) s Q = Ev a s fun x s1 => Ev b s1 fun y s2 => So (f x y) fun z => So (tru z) fun k => Br k (Ev c s2 fun w s3 => So (g y w) fun r => Q r s3) (Q (.bool false) s2) := by with_unfolding_all exact xv_chain_0
theorem xr_if {t : M Bool} {a b : MS} : Run (sIf t a b) s Nx Rt Bk Ct Ex = Ev t s fun x s' => Br x (Run a s' Nx Rt Bk Ct Ex) (Run b s' Nx Rt Bk Ct Ex) := by with_unfolding_all exact xr_if_0
theorem xv_call {f : FD} {n : Nat} {a : M (List D)} {Q : D → DS → Prop} : Ev (mCall f n a) s Q = Ev a s fun xs s' => xs.length = n ∧ Cl f xs fun d _ => Q d s' := by with_unfolding_all exact xv_call_0
theorem xv_call1 {f : FD} {n j : Nat} {a : M (List D)} {Q : D → DS → Prop} : Ev (mCall1 f n j a) s Q = So (look s j) fun _ => Ev a s fun xs s' => So (look s' j) fun e => xs.length = n ∧ Cl f (e :: xs) fun d as => So (hdO as) fun e' => Q d (s'.set j (some e')) := by with_unfolding_all exact xv_call1_0
theorem xv_callT {f : FD} {n : Nat} {m0 : M D} {a : M (List D)} {Q : D → DS → Prop} : Ev (mCallT f n m0 a) s Q = Ev m0 s fun e s1 => Ev a s1 fun xs s' => xs.length = n ∧ Cl f (e :: xs) fun d as => So (hdO as) fun _ => Q d s' := by with_unfolding_all exact xv_callT_0
theorem hdC {a : D} {as : List D} {Q : D → Prop} : So (hdO (a :: as)) Q = Q a := by with_unfolding_all exact hdC_0
variable {i j : Int} {Q : D → Prop}
theorem so_add : So (addD (.int i) (.int j)) Q = Q (.int (i + j)) := by with_unfolding_all exact so_add_0
theorem so_sub : So (subI (.int i) (.int j)) Q = Q (.int (i - j)) := by with_unfolding_all exact so_sub_0
theorem so_addN : So (addN (.int i) (.int j)) Q = Q (.int (i + j)) := by with_unfolding_all exact so_addN_0
theorem so_subN : So (subN (.int i) (.int j)) Q = Q (.int (i - j)) := by with_unfolding_all exact so_subN_0
theorem so_mul : So (mulI (.int i) (.int j)) Q = (mulC i j = true ∧ Q (.int (i * j))) := by with_unfolding_all exact so_mul_0
theorem so_div : So (divI (.int i) (.int j)) Q = (divC i j = true ∧ Q (.int (i / j))) := by with_unfolding_all exact so_div_0
theorem so_mod : So (modI (.int i) (.int j)) Q = (modC i j = true ∧ Q (.int (i % j))) := by with_unfolding_all exact so_mod_0
theorem so_pow : So (powI (.int i) (.int j)) Q = (powC i j = true ∧ Q (.int (i ^ j.toNat))) := by with_unfolding_all exact so_pow_0
theorem so_shl : So (shlI (.int i) (.int j)) Q = (shlC i j = true ∧ Q (.int (i * 2 ^ j.toNat))) := by with_unfolding_all exact so_shl_0
theorem so_shr : So (shrI (.int i) (.int j)) Q = (shrC i j = true ∧ Q (.int (i / 2 ^ j.toNat))) := by with_unfolding_all exact so_shr_0
theorem so_and : So (andI (.int i) (.int j)) Q = Q (.int (Builtin.bitAnd i j)) := by with_unfolding_all exact so_and_0
theorem so_or : So (orI (.int i) (.int j)) Q = Q (.int (Builtin.bitOr i j)) := by with_unfolding_all exact so_or_0
theorem so_xor : So (xorI (.int i) (.int j)) Q = Q (.int (Builtin.bitXor i j)) := by with_unfolding_all exact so_xor_0
theorem so_lt : So (ltI (.int i) (.int j)) Q = Q (.bool (decide (i < j))) := by with_unfolding_all exact so_lt_0
theorem so_le : So (leI (.int i) (.int j)) Q = Q (.bool (decide (i ≤ j))) := by with_unfolding_all exact so_le_0
theorem so_gt : So (gtI (.int i) (.int j)) Q = Q (.bool (decide (j < i))) := by with_unfolding_all exact so_gt_0
theorem so_ge : So (geI (.int i) (.int j)) Q = Q (.bool (decide (j ≤ i))) := by with_unfolding_all exact so_ge_0
theorem so_eqI : So (eqD (.int i) (.int j)) Q = Q (.bool (decide (i = j))) := by with_unfolding_all exact so_eqI_0
theorem so_neI : So (neD (.int i) (.int j)) Q = Q (.bool (!decide (i = j))) := by with_unfolding_all exact so_neI_0
theorem so_neg : So (negI (.int i)) Q = Q (.int (-i)) := by with_unfolding_all exact so_neg_0
theorem so_isN {d : D} : So (isN d .none) Q = Q (.bool (nonB d)) := by with_unfolding_all exact so_isN_0
theorem so_notN {d : D} : So (notN d .none) Q = Q (.bool (!nonB d)) := by with_unfolding_all exact so_notN_0
theorem so_ixL {l : List D} : So (ixD (.list l) (.int i)) Q = So (atI l i) Q := by with_unfolding_all exact so_ixL_0
theorem so_ixT {l : List D} : So (ixD (.tuple l) (.int i)) Q = So (atI l i) Q := by with_unfolding_all exact so_ixT_0
theorem ix0 {α : Type} {a : α} {l : List α} {Q : Nat → Prop} : So (ixN (a :: l).length 0) Q = Q 0 := by with_unfolding_all exact ix0_0
theorem ix1 {α : Type} {a b : α} {l : List α} {Q : Nat → Prop} : So (ixN (a :: b :: l).length 1) Q = Q 1 := by with_unfolding_all exact ix1_0
theorem ix2 {α : Type} {a b c : α} {l : List α} {Q : Nat → Prop} : So (ixN (a :: b :: c :: l).length 2) Q = Q 2 := by with_unfolding_all exact ix2_0
theorem so_tru {b : Bool} {Q : Bool → Prop} : So (tru (.bool b)) Q = Q b := by with_unfolding_all exact so_tru_0
theorem so_iof {Q : Int → Prop} : So (iof (.int i)) Q = Q i := by with_unfolding_all exact so_iof_0
theorem so_lof {l : List D} {Q : List D → Prop} : So (lof (.list l)) Q = Q l := by with_unfolding_all exact so_lof_0
theorem so_itL {l : List D} {Q : List D → Prop} : So (itD (.list l)) Q = Q l := by with_unfolding_all exact so_itL_0
theorem so_itT {l : List D} {Q : List D → Prop} : So (itD (.tuple l)) Q = Q l := by with_unfolding_all exact so_itT_0
theorem so_r1 {Q : Int → Prop} : So (r1D [.int i]) Q = Q i := by with_unfolding_all exact so_r1_0
theorem so_r2 {Q : Int × Int → Prop} : So (r2D [.int i, .int j]) Q = Q (i, j) := by with_unfolding_all exact so_r2_0
theorem so_abs : So (absD [.int i]) Q = Q (.int (if i < 0 then -i else i)) := by with_unfolding_all exact so_abs_0
theorem so_max : So (maxD [.int i, .int j]) Q = Q (.int (if j > i then j else i)) := by with_unfolding_all exact so_max_0
theorem so_min : So (minD [.int i, .int j]) Q = Q (.int (if j < i then j else i)) := by with_unfolding_all exact so_min_0
theorem so_intB {b : Bool} : So (intD [.bool b]) Q = Q (.int (if b then 1 else 0)) := by with_unfolding_all exact so_intB_0
theorem so_intI : So (intD [.int i]) Q = Q (.int i) := by with_unfolding_all exact so_intI_0
theorem so_cat {l k : List D} : So (addD (.list l) (.list k)) Q = (fits (l.length + k.length) = true ∧ Q (.list (l ++ k))) := by with_unfolding_all exact so_cat_0
end
section
variable {s : DS} {Nx : DS → Prop} {Rt : D → DS → Prop} {Bk Ct : DS → Prop} {Ex : Xc → DS → Prop} {Q : DS → Prop}
theorem so_gN {i : Nat} {d : D} : So (gN i d s) Q = Q (s.set i (some d)) := by with_unfolding_all exact so_gN_0
theorem so_gT {n : Nat} {g : List D → DS → Option DS} {xs : List D} : So (gT n g (.tuple xs) s) Q = (xs.length = n ∧ So (g xs s) Q) := by with_unfolding_all exact so_gT_0
theorem so_gL {n : Nat} {g : List D → DS → Option DS} {xs : List D} : So (gL n g (.list xs) s) Q = (xs.length = n ∧ So (g xs s) Q) := by with_unfolding_all exact so_gL_0
theorem so_gC {a : MG} {r : List D → DS → Option DS} {x : D} {ys : List D} : So (gC a r (x :: ys) s) Q = So (a x s) fun s' => So (r ys s') Q := by with_unfolding_all exact so_gC_0
theorem so_gE : So (gE [] s) Q = Q s := by with_unfolding_all exact so_gE_0
theorem run_fo {mi : M (List D)} {g : MG} {b : MS} : Run (sFor mi g b) s Nx Rt Bk Ct Ex = Ev mi s fun xs s' => Fo xs s' g b Nx Rt Bk Ct Ex := by with_unfolding_all exact run_fo_0
theorem run_wh {t : M Bool} {b : MS} : Run (sWhile t b) s Nx Rt Bk Ct Ex = Wh t b s Nx Rt Bk Ct Ex := by with_unfolding_all exact run_wh_0
theorem so_lenL {l : List D} {Q : D → Prop} : So (lenD [.list l]) Q = Q (.int l.length) := by with_unfolding_all exact so_lenL_0
theorem so_lenT {l : List D} {Q : D → Prop} : So (lenD [.tuple l]) Q = Q (.int l.length) := by with_unfolding_all exact so_lenT_0
theorem so_slL {l : List D} {lo hi : Option Int} {Q : D → Prop} : So (slD (.list l) lo hi) Q = Q (.list (cutD l lo hi)) := by with_unfolding_all exact so_slL_0
theorem so_map {α β : Type} {o : Option α} {f : α → β} {Q : β → Prop} : So (o.map f) Q = So o fun a => Q (f a) := by with_unfolding_all exact so_map_0
end
section
variable {Q : D → Prop} {x : D} {l : List D}
theorem so_inL : So (inD x (.list l)) Q = ((flatD x && l.all flatD) = true ∧ Q (.bool (l.any fun y => eqF y x))) := by with_unfolding_all exact so_inL_0
theorem so_inT : So (inD x (.tuple l)) Q = ((flatD x && l.all flatD) = true ∧ Q (.bool (l.any fun y => eqF y x))) := by with_unfolding_all exact so_inT_0
theorem so_ninL : So (notInD x (.list l)) Q = ((flatD x && l.all flatD) = true ∧ Q (.bool (!l.any fun y => eqF y x))) := by with_unfolding_all exact so_ninL_0
theorem so_ninT : So (notInD x (.tuple l)) Q = ((flatD x && l.all flatD) = true ∧ Q (.bool (!l.any fun y => eqF y x))) := by with_unfolding_all exact so_ninT_0
end
end Z
set_option Elab.async false
set_option linter.all false
set_option maxRecDepth 100000
namespace Z
open PySem L2 PyProof.Rows
section
variable {prog : Program} {w : World} {A : Around} {E : Value → Shared → Prop} {s : Shared}
/-- max((a, b)) -/
theorem max_pair {p : Addr} {a b : Int} {t u : Tok} {Q : Value → Shared → Prop} (hh : A.handled = none) (hT : s.heap.IsTuple p #[.int a t, .int b u])
    (h : ∀ h' tk, (∀ c o, s.heap.get? c = some o → h'.get? c = some o) → Q (if b > a then .int b u else .int a t) { s with heap := h', toks := tk }) :
    wpAny (model prog w) A (call (.builtin "max") [.ref p]) Q E s := by
  have hT' : s.heap.IsTuple p (intItems #[(a, t), (b, u)]) := by
    have e : intItems #[(a, t), (b, u)] = #[.int a t, .int b u] := by simp [intItems]
    rw [e]; exact hT
  have hlt : p < s.heap.objs.size := by
    obtain ⟨o, e, _⟩ := hT
    exact Heap.lt_size e
  refine call_max_walk (wpAny_pyIter_tuple hT' ?_)
  refine ⟨_, [_, p], [_], _, _, _, _, rfl, Walks.tuple (A := A.in1) hh _ p (Nat.ne_of_lt hlt) (intItems #[(a, t), (b, u)]),
    ⟨⟨_, Heap.get?_push_size _ rfl, rfl, rfl⟩, hT'.push _⟩, fun c hc => ?_, by simp [intItems], CmpOf.ints_gt (numAt #[(a, t), (b, u)]) (fun _ _ => intItems_at), fun v h' tk hP hk => ?_⟩
  · show c < (s.heap.push _).objs.size
    rw [Heap.size_push]
    rcases List.mem_cons.mp hc with rfl | hc
    · exact Nat.lt_succ_self _
    · rcases List.mem_cons.mp hc with rfl | hc
      · exact Nat.lt_succ_of_lt hlt
      · cases hc
  · have hold : ∀ c o, s.heap.get? c = some o → h'.get? c = some o := fun c o e => by
      refine hk c o (fun hm => ?_) (Heap.get?_push_of_some _ e)
      rcases List.mem_cons.mp hm with e1 | hm
      · exact absurd (e1 ▸ Heap.lt_size e) (Nat.lt_irrefl _)
      · cases hm
    have q := h h' tk hold
    by_cases c : b > a
    · rw [if_pos c] at q
      have : v = .int b u := by
        simp [argBest, numAt, intItems, c] at hP
        exact hP.symm
      rw [this]; exact q
    · rw [if_neg c] at q
      have : v = .int a t := by
        simp [argBest, numAt, intItems, c] at hP
        exact hP.symm
      rw [this]; exact q
end
section
variable {X : Cx}
def rMaxT (K : Fg) : List V → Hp → VK → Prop := fun xs H Q => (∃ i j, xs = [.int i, .int j] ∧ Q (.int (if j > i then j else i)) H) ∨ ∃ p i j, xs = [.ref p] ∧ SqT K H p [.int i, .int j] ∧ Q (.int (if j > i then j else i)) H
theorem call_maxT (hc : X.calm = true) : CallR X (.builtin "max") (rMaxT X.K) := by
  intro pins s σ H xs us Q I r h
  rcases h with h | ⟨p, i, j, rfl, hs, q⟩
  · exact call_max2 hc pins s σ H xs us Q I r h
  · obtain ⟨its, rv, hT, _⟩ := I.tuple hs
    obtain ⟨t, u, rfl⟩ := Vals.int2 rv
    rw [Vals.ref1 r]
    refine max_pair (I.ok.hd hc) hT fun h' tk hk => ⟨.int (if j > i then j else i), H, I.kept hk, ?_, q⟩
    by_cases c : j > i
    · rw [if_pos c, if_pos c]; exact ⟨_, rfl⟩
    · rw [if_neg c, if_neg c]; exact ⟨_, rfl⟩
end
def maxT : List D → Option D
  | [.int i, .int j] => some (.int (if j > i then j else i))
  | [.tuple [.int i, .int j]] => some (.int (if j > i then j else i))
  | _ => none
theorem g_maxT {K : Fg} : CaG K (rMaxT K) maxT := fun F H xs es d sF va e Q q => by
  unfold maxT at e
  split at e
  · cases e
    cases va with
    | cons v1 r =>
      cases r with
      | cons v2 r =>
        cases r
        rw [v1.int, v2.int]
        exact .inl ⟨_, _, rfl, q F H _ .refl (.int _)⟩
  · cases e
    cases va with
    | cons v1 r =>
      cases r
      obtain ⟨p, xs, rfl, sq, al⟩ := v1.tup sF
      cases al with
      | cons d1 r =>
        cases r with
        | cons d2 r =>
          cases r
          cases d1
          cases d2
          exact .inr ⟨p, _, _, rfl, sq, q F H _ .refl (.int _)⟩
  · cases e
section
variable {i j : Int} {Q : D → Prop}
theorem so_maxI : So (maxT [.int i, .int j]) Q = Q (.int (if j > i then j else i)) := by with_unfolding_all exact nr rfl
theorem so_maxT : So (maxT [.tuple [.int i, .int j]]) Q = Q (.int (if j > i then j else i)) := by with_unfolding_all exact nr rfl
end
end Z
set_option Elab.async false
set_option linter.all false
set_option maxRecDepth 100000
namespace Z
open PySem L2
/-! ### list comprehensions -/
def wipeD (s : DS) : List Nat → DS
  | [] => s
  | v :: vs => (wipeD s vs).set v none
def back (s1 s2 : DS) : List Nat → DS
  | [] => s2
  | v :: vs => (back s1 s2 vs).set v (s1[v]?.getD none)
def lcl (g : MG) (t : M Bool) (e : M D) (vs : List Nat) : List D → DS → R (List D)
  | [], s => .ok [] s
  | x :: xs, s => match g x s with
    | none => .no
    | some s2 => match t s2 with
      | .no => .no
      | .ok false s3 => lcl g t e vs xs (wipeD s3 vs)
      | .ok true s3 => match e s3 with
        | .no => .no
        | .ok y s4 => match lcl g t e vs xs (wipeD s4 vs) with
          | .ok ys s5 => .ok (y :: ys) s5
          | .no => .no
def mLc (mi : M (List D)) (g : MG) (t : M Bool) (e : M D) (vs : List Nat) : M D := fun s => match mi s with
  | .no => .no
  | .ok xs s1 => match lcl g t e vs xs (wipeD s1 vs) with
    | .no => .no
    | .ok ys s2 => if fits ys.length then .ok (.list ys) (back s1 s2 vs) else .no
def mYes : M Bool := fun s => .ok true s
section
variable {K : Fg} {c : Ctx} {O : List Kd}
theorem wipe_get (σ : St) : ∀ (vs : List Nat) (i : Nat), i ∉ vs → (wipe σ vs)[i]? = σ[i]?
  | [], _, _ => rfl
  | v :: vs, i, h => by
    unfold wipe
    rw [List.getElem?_set_ne (fun z => h (by rw [z]; exact List.mem_cons_self))]
    exact wipe_get σ vs i fun z => h (List.mem_cons_of_mem _ z)
theorem wipeD_get (s : DS) : ∀ (vs : List Nat) (i : Nat), i ∉ vs → (wipeD s vs)[i]? = s[i]?
  | [], _, _ => rfl
  | v :: vs, i, h => by
    unfold wipeD
    rw [List.getElem?_set_ne (fun z => h (by rw [z]; exact List.mem_cons_self))]
    exact wipeD_get s vs i fun z => h (List.mem_cons_of_mem _ z)
theorem wipeD_len (s : DS) : ∀ vs : List Nat, (wipeD s vs).length = s.length
  | [] => rfl
  | v :: vs => by unfold wipeD; rw [List.length_set, wipeD_len s vs]
theorem wipeD_in (s : DS) : ∀ (vs : List Nat) (i : Nat) (d : D), (wipeD s vs)[i]? = some (some d) → i ∉ vs
  | [], i, d, _ => by simp
  | v :: vs, i, d, h => by
    unfold wipeD at h
    by_cases hi : v = i
    · subst hi
      by_cases hv : v < (wipeD s vs).length
      · rw [List.getElem?_set_self hv] at h; cases h
      · rw [List.getElem?_eq_none (by simpa using hv)] at h; cases h
    · rw [List.getElem?_set_ne hi] at h
      have := wipeD_in s vs i d h
      simp only [List.mem_cons, not_or]
      exact ⟨fun e => hi e.symm, this⟩
theorem back_get (s1 s2 : DS) : ∀ (vs : List Nat) (i : Nat), i ∉ vs → (back s1 s2 vs)[i]? = s2[i]?
  | [], _, _ => rfl
  | v :: vs, i, h => by
    unfold back
    rw [List.getElem?_set_ne (fun z => h (by rw [z]; exact List.mem_cons_self))]
    exact back_get s1 s2 vs i fun z => h (List.mem_cons_of_mem _ z)
theorem back_len (s1 s2 : DS) : ∀ vs : List Nat, (back s1 s2 vs).length = s2.length
  | [] => rfl
  | v :: vs => by unfold back; rw [List.length_set, back_len s1 s2 vs]
theorem back_in (s1 s2 : DS) : ∀ (vs : List Nat) (i : Nat) (d : D), i ∈ vs → (back s1 s2 vs)[i]? = some (some d) → s1[i]? = some (some d)
  | [], i, d, h, _ => absurd h (by simp)
  | v :: vs, i, d, h, e => by
    unfold back at e
    by_cases hi : v = i
    · subst hi
      by_cases hv : v < (back s1 s2 vs).length
      · rw [List.getElem?_set_self hv] at e
        cases z : s1[v]? with
        | none => rw [z] at e; cases e
        | some o => rw [z] at e; simpa using e
      · rw [List.getElem?_eq_none (by simpa using hv)] at e; cases e
    · rw [List.getElem?_set_ne hi] at e
      rcases List.mem_cons.mp h with z | z
      · exact absurd z.symm hi
      · exact back_in s1 s2 vs i d z e
theorem wipe_wipe (σ : St) (vs : List Nat) : wipe (wipe σ vs) vs = wipe σ vs := by
  apply List.ext_getElem?
  intro i
  by_cases h : i ∈ vs
  · have key : ∀ (τ : St) (ws : List Nat), i ∈ ws → (wipe τ ws)[i]? = if i < τ.length then some none else none := fun τ ws => by
      induction ws with
      | nil => intro h; exact absurd h (by simp)
      | cons w ws ih =>
        intro h
        unfold wipe
        by_cases z : w = i
        · subst z
          by_cases hl : w < τ.length
          · rw [List.getElem?_set_self (by rw [wipe_length]; exact hl), if_pos hl]
          · rw [List.getElem?_eq_none (by rw [List.length_set, wipe_length]; omega), if_neg hl]
        · rw [List.getElem?_set_ne z]
          rcases List.mem_cons.mp h with y | y
          · exact absurd y.symm z
          · exact ih y
    rw [key _ _ h, key _ _ h, wipe_length]
  · rw [wipe_get _ _ _ h]
theorem wipe_set (σ : St) (vs : List Nat) (i : Nat) (x : Option V) (h : i ∈ vs) : wipe (σ.set i x) vs = wipe σ vs := by
  induction vs with
  | nil => exact absurd h (by simp)
  | cons v vs ih =>
    unfold wipe
    by_cases z : i ∈ vs
    · rw [ih z]
    · have e : i = v := by
        rcases List.mem_cons.mp h with y | y
        · exact y
        · exact absurd y z
      subst e
      apply List.ext_getElem?
      intro j
      by_cases hj : i = j
      · subst hj
        by_cases hl : i < σ.length
        · rw [List.getElem?_set_self (by rw [wipe_length, List.length_set]; exact hl), List.getElem?_set_self (by rw [wipe_length]; exact hl)]
        · rw [List.getElem?_eq_none (by rw [List.length_set, wipe_length, List.length_set]; omega), List.getElem?_eq_none (by rw [List.length_set, wipe_length]; omega)]
      · rw [List.getElem?_set_ne hj, List.getElem?_set_ne hj]
        by_cases y : j ∈ vs
        · have key : ∀ (τ : St) (ws : List Nat), j ∈ ws → (wipe τ ws)[j]? = if j < τ.length then some none else none := fun τ ws => by
            induction ws with
            | nil => intro h; exact absurd h (by simp)
            | cons w ws ih =>
              intro h
              unfold wipe
              by_cases z : w = j
              · subst z
                by_cases hl : w < τ.length
                · rw [List.getElem?_set_self (by rw [wipe_length]; exact hl), if_pos hl]
                · rw [List.getElem?_eq_none (by rw [List.length_set, wipe_length]; omega), if_neg hl]
              · rw [List.getElem?_set_ne z]
                rcases List.mem_cons.mp h with y | y
                · exact absurd y.symm z
                · exact ih y
          rw [key _ _ y, key _ _ y, List.length_set]
        · rw [wipe_get _ _ _ y, wipe_get _ _ _ y, List.getElem?_set_ne hj]
/-- a target of the comprehension's own names -/
structure DV (K : Fg) (c : Ctx) (O : List Kd) (vs : List Nat) (g : TG) (mg : MG) : Prop where
  run : ∀ {F H : Hp} {σ : St} {fps : Nat → List Addr} {ds ds' : DS} {v : V} {d : D}, Rel K c O F H σ fps ds → Dp K F v d → mg d ds = some ds' → ∀ Q : St → Hp → Prop,
    (∀ σ' fps', Rel K c O F H σ' fps' ds' → wipe σ' vs = wipe σ vs → Q σ' H) → g v σ H Q
structure DVs (K : Fg) (c : Ctx) (O : List Kd) (vs : List Nat) (g : TGs) (mg : List D → DS → Option DS) : Prop where
  run : ∀ {F H : Hp} {σ : St} {fps : Nat → List Addr} {ds ds' : DS} {us : List V} {es : List D}, Rel K c O F H σ fps ds → DpAll K F us es → mg es ds = some ds' → ∀ Q : St → Hp → Prop,
    (∀ σ' fps', Rel K c O F H σ' fps' ds' → wipe σ' vs = wipe σ vs → Q σ' H) → g us σ H Q
variable {vs : List Nat}
theorem v_name (i : Nat) (hi : O[i]? = some .sh := by rfl) (hv : i ∈ vs := by decide) : DV K c O vs (gName i) (gN i) := ⟨fun {F H σ fps ds ds' v d} r dp e Q q => by
  cases e
  have hl : i < O.length := (List.getElem?_eq_some_iff.mp hi).1
  have r' := r.put hl (by rw [hi]; rfl) (k := .sh) (v := v) (d := d) (fpv := []) ⟨rfl, dp⟩ (fun q hq => absurd hq (by simp)) (by simp)
  have eO : O.set i .sh = O := by
    apply List.ext_getElem?
    intro j
    by_cases z : j = i
    · subst z; rw [List.getElem?_set_self hl, hi]
    · rw [List.getElem?_set_ne (Ne.symm z)]
  rw [eO] at r'
  exact q _ _ r' (wipe_set _ _ _ _ hv)⟩
theorem vs_nil : DVs K c O vs gNil gE := ⟨fun {F H σ fps ds ds' us es} r al e Q q => by
  cases al with
  | nil => cases e; exact ⟨rfl, q _ _ r rfl⟩
  | cons _ _ => cases e⟩
theorem vs_cons {g : TG} {gs : TGs} {a : MG} {b : List D → DS → Option DS} (h1 : DV K c O vs g a) (h2 : DVs K c O vs gs b) : DVs K c O vs (gCons g gs) (gC a b) := ⟨fun {F H σ fps ds ds' us es} r al e Q q => by
  cases al with
  | nil => cases e
  | cons dp al =>
    unfold gC at e
    dsimp only at e
    split at e
    · rename_i s' hs
      exact ⟨_, _, rfl, h1.run r dp hs _ fun σ1 fps1 r1 e1 => h2.run r1 al e Q fun σ2 fps2 r2 e2 => q σ2 fps2 r2 (e2.trans e1)⟩
    · cases e⟩
theorem v_tup {n : Nat} {gs : TGs} {b : List D → DS → Option DS} (h : DVs K c O vs gs b) : DV K c O vs (gTup K n gs) (gT n b) := ⟨fun {F H σ fps ds ds' v d} r dp e Q q => by
  unfold gT at e
  split at e
  · split at e
    · rename_i hn
      cases dp with
      | tup hq al => exact ⟨_, _, rfl, sqT_mono r.sub hq, by rw [dpa_len al]; exact hn, h.run r al e Q q⟩
    · cases e
  · cases e⟩
theorem d_yes : DT K c O tYes mYes := ⟨fun r e Q q => by
  cases e
  exact q _ _ _ (Same.refl _) r⟩
/-- an expression read as a thing of no one's -/
theorem DE.o {te : TE} {m : M D} (h : DE K c O te m) : DO K c O .sh te m := ⟨fun {F H σ fps ds ds' d} r e Q q => h.run r e Q fun F1 H1 fps1 v s r1 dp => q F1 H1 fps1 v [] s r1 ⟨rfl, dp⟩ (fun q hq => absurd hq (by simp)) (by simp)⟩
section
variable {F1 H1 F2 H2 : Hp} {σ1 σ2 : St} {fps1 fps2 : Nat → List Addr} {ds1 ds2 : DS}
/-- what is no one's stays through a part that is seen from here on -/
theorem Rel.out (r2 : Rel K (c.from O F1 H1 fps1) O F2 H2 σ2 fps2 ds2) {q : Addr} (h1 : F1 q = none) (h2 : H1 q ≠ none) (h4 : ∀ i, q ∉ fps1 i) : H2 q = H1 q ∧ F2 q = none ∧ ∀ i, q ∉ fps2 i := by
  have hH : (c.from O F1 H1 fps1).H0 q = H1 q := from_some fun ⟨i, hi, _⟩ => h4 i hi
  refine ⟨?_, ?_, fun i hi => ?_⟩
  · cases z : H1 q with
    | none => exact absurd z h2
    | some o => exact r2.keep q o (by rw [hH]; exact z) fun ⟨i, hi, _⟩ => h4 i hi
  · cases z : F2 q with
    | none => rfl
    | some o =>
      rcases r2.new q o z with h | h
      · have h' : F1 q = some o := h
        rw [h1] at h'; cases h'
      · rw [hH] at h; exact absurd h h2
  · rcases (r2.off i q hi).2.2 with h | ⟨⟨j, hj, _⟩, _⟩
    · rw [hH] at h; exact h2 h
    · exact h4 j hj
theorem Rel.unfocus' (r : Rel K c O F1 H1 σ1 fps1 ds1) (r2 : Rel K (c.from O F1 H1 fps1) O F2 H2 σ2 fps2 ds2) : Rel K c O F2 H2 σ2 fps2 ds2 := by
  have hn : ∀ b, (c.from O F1 H1 fps1).H0 b = none → c.H0 b = none := fun b h => by
    rcases from_none h with ⟨i, hi, hp⟩ | h
    · rcases (r.off i b hi).2.2 with h | ⟨_, h⟩
      · exact h
      · rw [hp] at h; cases h
    · exact r.live b h
  refine ⟨r2.sub, r.base.trans r2.base, fun b o e n => ?_, fun b e => hn b (r2.live b e), fun b o e => ?_, r2.slots, fun i q hq => ?_, r2.nd, r2.dj, r2.par, r2.len⟩
  · have hb : ∀ i, b ∉ fps1 i := fun i hi => by
      rcases (r.off i b hi).2.2 with h | ⟨h, _⟩
      · rw [h] at e; cases e
      · exact n h
    refine r2.keep b o ?_ (fun ⟨i, hi, _⟩ => hb i hi)
    rw [from_some (fun ⟨i, hi, _⟩ => hb i hi)]
    exact r.keep b o e n
  · rcases r2.new b o e with h | h
    · exact r.new b o h
    · exact .inr (hn b h)
  · obtain ⟨h1, h2, h3⟩ := r2.off i q hq
    refine ⟨h1, h2, ?_⟩
    rcases h3 with h3 | ⟨⟨j, hj, _⟩, h3⟩
    · exact .inl (hn q h3)
    · rcases (r.off j q hj).2.2 with h | ⟨h, _⟩
      · exact .inl h
      · exact .inr ⟨h, h3⟩
/-- a thing of no one's is written -/
theorem Rel.updO (r : Rel K c O F1 H1 σ1 fps1 ds1) {p : Addr} (hF : F1 p = none) (h0 : c.H0 p = none) (hq : ∀ i, p ∉ fps1 i) (o : HO) : Rel K c O F1 (upd H1 p o) σ1 fps1 ds1 := by
  refine ⟨fun b u e => ?_, r.base, fun b u e n => ?_, fun b e => ?_, r.new, fun i d e => ?_, fun i q hqi => ?_, r.nd, r.dj, r.par, r.len⟩
  · rw [upd_ne (ne_of_none e hF)]; exact r.sub b u e
  · have hb : b ≠ p := fun z => by subst z; rw [h0] at e; cases e
    rw [upd_ne hb]; exact r.keep b u e n
  · by_cases hb : b = p
    · subst hb; rw [upd_same] at e; cases e
    · rw [upd_ne hb] at e; exact r.live b e
  · obtain ⟨v, hv, ho⟩ := r.slots i d e
    exact ⟨v, hv, ow_mono (Same.refl _) ho fun q hq' => upd_ne fun z => by subst z; exact hq i hq'⟩
  · obtain ⟨a, b, cc⟩ := r.off i q hqi
    have hb : q ≠ p := fun z => by subst z; exact hq i hqi
    rw [upd_ne hb]; exact ⟨a, b, cc⟩
/-- the comprehension's own names forgotten -/
theorem Rel.wiped (r : Rel K c O F1 H1 σ1 fps1 ds1) (hv : ∀ v ∈ vs, O[v]? = some .sh) : Rel K c O F1 H1 (wipe σ1 vs) fps1 (wipeD ds1 vs) := by
  refine ⟨r.sub, r.base, r.keep, r.live, r.new, fun i d e => ?_, r.off, r.nd, r.dj, fun i k h => ?_, by rw [wipe_length, wipeD_len]; exact r.len⟩
  · have hi := wipeD_in _ _ _ _ e
    rw [wipeD_get _ _ _ hi] at e
    rw [wipe_get _ _ _ hi]
    exact r.slots i d e
  · obtain ⟨a, b⟩ := r.par i k h
    refine ⟨a, ?_⟩
    rw [wipe_get _ _ _ fun hi => by rw [hv i hi] at a; cases a]
    exact b
/-- .. and known again -/
theorem Rel.backed (r1 : Rel K c O F1 H1 σ1 fps1 ds1) (r2 : Rel K c O F2 H2 σ2 fps2 ds2) (e : wipe σ2 vs = wipe σ1 vs) (s : Same F1 F2) (hv : ∀ v ∈ vs, O[v]? = some .sh) : Rel K c O F2 H2 σ1 (fun j => if j ∈ vs then [] else fps2 j) (back ds1 ds2 vs) := by
  have eg : ∀ i, i ∉ vs → σ2[i]? = σ1[i]? := fun i h => by rw [← wipe_get σ2 vs i h, e, wipe_get σ1 vs i h]
  have sub : ∀ i q, q ∈ (if i ∈ vs then [] else fps2 i) → q ∈ fps2 i := fun i q h => by
    by_cases z : i ∈ vs
    · rw [if_pos z] at h; exact absurd h (by simp)
    · rw [if_neg z] at h; exact h
  refine ⟨r2.sub, r2.base, r2.keep, r2.live, r2.new, fun i d ed => ?_, fun i q hq => r2.off i q (sub i q hq), fun i => ?_, fun i j hij q hq hq' => r2.dj i j hij q (sub i q hq) (sub j q hq'), fun i k h => ?_, ?_⟩
  · by_cases z : i ∈ vs
    · have e1 := back_in _ _ _ _ _ z ed
      obtain ⟨v, hv', ow⟩ := r1.slots i d e1
      refine ⟨v, hv', ?_⟩
      have hk : O.getD i .sh = .sh := by rw [List.getD_eq_getElem?_getD, hv i z]; rfl
      rw [hk] at ow ⊢
      simp only [if_pos z]
      exact ⟨rfl, dp_mono s ow.2⟩
    · rw [back_get _ _ _ _ z] at ed
      obtain ⟨v, hv', ow⟩ := r2.slots i d ed
      rw [eg i z] at hv'
      refine ⟨v, hv', ?_⟩
      simp only [if_neg z]
      exact ow
  · by_cases z : i ∈ vs
    · simp only [if_pos z]; simp
    · simp only [if_neg z]; exact r2.nd i
  · exact r1.par i k h
  · rw [back_len, ← r2.len, ← wipe_length σ1 vs, ← wipe_length σ2 vs, e]
end
/-- the list that a comprehension makes, so far -/
structure Acc (K : Fg) (c : Ctx) (k : Kd) (F H : Hp) (fps : Nat → List Addr) (p : Addr) (acc : List V) (ys : List D) (fs : List (List Addr)) : Prop where
  at_ : H p = some (.lst acc)
  off : ∀ q ∈ p :: fs.flatten, F q = none ∧ H q ≠ none ∧ c.H0 q = none ∧ ∀ i, q ∉ fps i
  al : All3 (Ow K F H k) acc ys fs
  nd : (p :: fs.flatten).Nodup
theorem All3.snoc {α β γ : Type} {P : α → β → γ → Prop} {a : α} {b : β} {d : γ} (h : P a b d) : ∀ {xs ys zs}, All3 P xs ys zs → All3 P (xs ++ [a]) (ys ++ [b]) (zs ++ [d])
  | _, _, _, .nil => .cons h .nil
  | _, _, _, .cons p t => .cons p (t.snoc h)
theorem Acc.step {k : Kd} {F1 H1 F2 H2 : Hp} {σ2 : St} {fps1 fps2 : Nat → List Addr} {ds2 : DS} {p : Addr} {acc : List V} {ys : List D} {fs : List (List Addr)} (a : Acc K c k F1 H1 fps1 p acc ys fs)
    (s : Same F1 F2) (r2 : Rel K (c.from O F1 H1 fps1) O F2 H2 σ2 fps2 ds2) : Acc K c k F2 H2 fps2 p acc ys fs := by
  have o := fun q hq => r2.out (a.off q hq).1 (a.off q hq).2.1 (a.off q hq).2.2.2
  refine ⟨by rw [(o p List.mem_cons_self).1]; exact a.at_, fun q hq => ⟨(o q hq).2.1, by rw [(o q hq).1]; exact (a.off q hq).2.1, (a.off q hq).2.2.1, (o q hq).2.2⟩, ?_, a.nd⟩
  exact a.al.imp fun x y z hz ow => ow_mono s ow fun q hq => (o q (List.mem_cons_of_mem _ (List.mem_flatten.mpr ⟨z, hz, hq⟩))).1
theorem o_lc {k : Kd} {wi : TI} {mi : M (List D)} {g : TG} {mg : MG} {tt : TT} {mt : M Bool} {te : TE} {me : M D} (hi : DI K c O wi mi) (hg : ∀ c' : Ctx, DV K c' O vs g mg) (ht : ∀ c' : Ctx, DT K c' O tt mt) (he : ∀ c' : Ctx, DO K c' O k te me)
    (hv : ∀ v ∈ vs, O[v]? = some .sh) : DO K c O (.ls k) (tLc wi g tt te vs) (mLc mi mg mt me vs) := ⟨fun {F H σ fps ds ds' d} r e Q q => by
  unfold mLc at e
  cases e1 : mi ds with
  | no => rw [e1] at e; cases e
  | ok xs s1 =>
    rw [e1] at e
    dsimp only at e
    cases e2 : lcl mg mt me vs xs (wipeD s1 vs) with
    | no => rw [e2] at e; cases e
    | ok ys s2 =>
      rw [e2] at e
      dsimp only at e
      split at e
      · rename_i hf
        cases e
        have hfit := fits_of hf
        refine hi.run r e1 _ fun F1 H1 fps1 J sF r1 wk => ?_
        intro p hp
        obtain ⟨pF, p0, pq⟩ := r1.fresh hp
        have r1' := (r1.allocO hp (.lst [])).wiped hv
        refine ⟨fun i m Hc => m + i = xs.length ∧ ∃ Fc fpc dc acc yc fs rest, Same F1 Fc ∧ Rel K c O Fc Hc (wipe σ vs) fpc dc ∧ Acc K c k Fc Hc fpc p acc yc fs ∧ lcl mg mt me vs (xs.drop i) dc = .ok rest s2 ∧ yc ++ rest = ys,
          ⟨xs.length, by omega, F1, fps1, _, [], [], [], ys, Same.refl _, r1', ⟨upd_same, fun q hq => ?_, .nil, by simp⟩, by rw [List.drop_zero]; exact e2, by simp⟩, ?_⟩
        · have : q = p := by simpa using hq
          subst this
          exact ⟨pF, by rw [upd_same]; simp, p0, pq⟩
        rintro i m Hc ⟨hm, Fc, fpc, dc, acc, yc, fs, rest, sc, rc, ac, el, ey⟩
        obtain ⟨w1, w2⟩ := wk Fc Hc i sc rc.sub
        cases hx : xs[i]? with
        | none =>
          have hl : xs.length ≤ i := List.getElem?_eq_none_iff.mp hx
          refine .inl ⟨w2 (by omega), ?_⟩
          rw [List.drop_of_length_le hl] at el
          unfold lcl at el
          cases el
          rw [List.append_nil] at ey
          subst ey
          refine q Fc Hc _ (.ref p) (p :: fs.flatten) (sF.trans sc) (r1.backed rc (wipe_wipe _ _) sc hv) ⟨p, acc, yc, fs, rfl, rfl, ac.at_, rfl, ac.al⟩ (fun q' hq' => ?_) ac.nd
          obtain ⟨a1, a2, a3, a4⟩ := ac.off q' hq'
          refine ⟨a1, a2, a3, fun j => ?_⟩
          by_cases z : j ∈ vs
          · simp only [if_pos z]; simp
          · simp only [if_neg z]; exact a4 j
        | some d0 =>
          obtain ⟨go, yl⟩ := w1 d0 hx
          have hlt : i < xs.length := (List.getElem?_eq_some_iff.mp hx).1
          have hd : xs.drop i = d0 :: xs.drop (i + 1) := by
            rw [List.drop_eq_getElem_cons hlt]
            congr 1
            rw [List.getElem?_eq_getElem hlt] at hx
            exact Option.some.inj hx
          rw [hd] at el
          unfold lcl at el
          refine .inr ⟨go, fun Hn => ∃ Fc fpc dc acc yc fs rest, Same F1 Fc ∧ Rel K c O Fc Hn (wipe σ vs) fpc dc ∧ Acc K c k Fc Hn fpc p acc yc fs ∧ lcl mg mt me vs (xs.drop (i + 1)) dc = .ok rest s2 ∧ yc ++ rest = ys, fun Hn h => ⟨m - 1, by omega, by omega, h⟩, fun x H3 hy => ?_⟩
          have rf := rc.focus
          obtain ⟨F3, gr, dp⟩ := yl x H3 hy
          obtain ⟨r3, s3⟩ := gr.rel rf
          split at el
          · cases el
          · rename_i s4 hs4
            refine (hg _).run r3 dp hs4 _ fun σ4 fps4 r4 e4 => ⟨by rw [e4, wipe_wipe], ?_⟩
            have e4' : wipe σ4 vs = wipe σ vs := by rw [e4, wipe_wipe]
            cases e5 : mt s4 with
            | no => rw [e5] at el; cases el
            | ok b s5 =>
              rw [e5] at el
              refine (ht _).run r4 e5 _ fun F5 H5 fps5 sF5 r5 => ?_
              cases b with
              | false =>
                refine iteF ?_
                have hs : Same Fc F5 := s3.trans sF5
                have r6 := (rc.unfocus' r5).wiped hv
                rw [e4'] at r6
                exact ⟨F5, fps5, _, acc, yc, fs, rest, sc.trans hs, r6, ac.step hs r5, el, ey⟩
              | true =>
                refine iteT ?_
                dsimp only at el
                cases e6 : me s5 with
                | no => rw [e6] at el; cases el
                | ok y s6 =>
                  rw [e6] at el
                  dsimp only at el
                  cases e7 : lcl mg mt me vs (xs.drop (i + 1)) (wipeD s6 vs) with
                  | no => rw [e7] at el; cases el
                  | ok rs s7 =>
                    rw [e7] at el
                    cases el
                    refine (he _).run r5 e6 _ fun F6 H6 fps6 u fpu sF6 r6 ow hfu ndu => ?_
                    have hs : Same Fc F6 := (s3.trans sF5).trans sF6
                    have a6 := ac.step hs r6
                    have r7 := rc.unfocus' r6
                    have hl : acc.length = yc.length := ac.al.len.1
                    refine ⟨acc, a6.at_, ?_, ?_⟩
                    · rw [hl]
                      have : yc.length + (y :: rs).length = ys.length := by rw [← ey, List.length_append]
                      rw [List.length_cons] at this
                      omega
                    · obtain ⟨pF6, pH6, p06, pq6⟩ := a6.off p List.mem_cons_self
                      have r8 := (r7.updO pF6 p06 pq6 (.lst (acc ++ [u]))).wiped hv
                      rw [e4'] at r8
                      have hpu : p ∉ fpu := fun z => by
                        have := (hfu p z).2.2.1
                        have hh : (c.from O Fc Hc fpc).H0 p = Hc p := from_some fun ⟨i, hi, _⟩ => (ac.off p List.mem_cons_self).2.2.2 i hi
                        rw [hh] at this
                        exact (ac.off p List.mem_cons_self).2.1 this
                      have hfr : ∀ q ∈ fs.flatten, q ∉ fpu := fun q hq z => by
                        have := (hfu q z).2.2.1
                        have hh : (c.from O Fc Hc fpc).H0 q = Hc q := from_some fun ⟨i, hi, _⟩ => (ac.off q (List.mem_cons_of_mem _ hq)).2.2.2 i hi
                        rw [hh] at this
                        exact (ac.off q (List.mem_cons_of_mem _ hq)).2.1 this
                      have hpf : p ∉ fs.flatten := (List.nodup_cons.mp ac.nd).1
                      refine ⟨F6, fps6, _, acc ++ [u], yc ++ [y], fs ++ [fpu], rs, sc.trans hs, r8, ⟨upd_same, fun q hq => ?_, ?_, ?_⟩, e7, by rw [List.append_assoc]; exact ey⟩
                      · rcases List.mem_cons.mp hq with z | hq
                        · subst z
                          exact ⟨pF6, by rw [upd_same]; simp, p06, pq6⟩
                        · rw [List.flatten_append, List.mem_append] at hq
                          rcases hq with hq | hq
                          · obtain ⟨b1, b2, b3, b4⟩ := a6.off q (List.mem_cons_of_mem _ hq)
                            have hne : q ≠ p := fun z => hpf (z ▸ hq)
                            exact ⟨b1, by rw [upd_ne hne]; exact b2, b3, b4⟩
                          · have hq : q ∈ fpu := by simpa using hq
                            obtain ⟨b1, b2, b3, b4⟩ := hfu q hq
                            have hne : q ≠ p := fun z => hpu (z ▸ hq)
                            refine ⟨b1, by rw [upd_ne hne]; exact b2, ?_, b4⟩
                            rcases from_none b3 with ⟨j, hj, hpm⟩ | h
                            · rcases (rc.off j q hj).2.2 with h | ⟨_, h⟩
                              · exact h
                              · rw [hpm] at h; cases h
                            · exact rc.live q h
                      · refine All3.snoc ?_ (a6.al.imp fun x1 y1 z1 hz1 ow1 => ow_mono (Same.refl _) ow1 fun q hq => upd_ne fun z => hpf (z ▸ List.mem_flatten.mpr ⟨z1, hz1, hq⟩))
                        exact ow_mono (Same.refl _) ow fun q hq => upd_ne fun z => hpu (z ▸ hq)
                      · rw [List.flatten_append]
                        have e9 : [fpu].flatten = fpu := by simp
                        rw [e9]
                        refine List.nodup_cons.mpr ⟨fun z => ?_, ?_⟩
                        · rcases List.mem_append.mp z with z | z
                          · exact hpf z
                          · exact hpu z
                        · exact List.nodup_append.mpr ⟨(List.nodup_cons.mp ac.nd).2, ndu, fun a ha b hb z => hfr a ha (z ▸ hb)⟩
      · cases e⟩
end
end Z
set_option Elab.async false
set_option linter.all false
set_option maxRecDepth 100000
namespace Z
open PySem L2
/-! ### comprehensions over a list of one's own, that stays so -/
def lclS (j : Nat) (g : MG) (t : M Bool) (e : M D) (vs : List Nat) : Nat → Nat → DS → R (List D)
  | 0, i, s => match s[j]? with
    | some (some (.list ys)) => if ys.length ≤ i then .ok [] s else .no
    | _ => .no
  | n + 1, i, s => match s[j]? with
    | some (some (.list ys)) => match ys[i]? with
      | none => .no
      | some x => match g x s with
        | none => .no
        | some s2 => match t s2 with
          | .no => .no
          | .ok false s3 => lclS j g t e vs n (i + 1) (wipeD s3 vs)
          | .ok true s3 => match e s3 with
            | .no => .no
            | .ok y s4 => match lclS j g t e vs n (i + 1) (wipeD s4 vs) with
              | .ok ys s5 => .ok (y :: ys) s5
              | .no => .no
    | _ => .no
def mLcS (j : Nat) (g : MG) (t : M Bool) (e : M D) (vs : List Nat) : M D := fun s => match s[j]? with
  | some (some (.list zs)) => match lclS j g t e vs zs.length 0 (wipeD s vs) with
    | .no => .no
    | .ok ys s2 => if fits ys.length then .ok (.list ys) (back s s2 vs) else .no
  | _ => .no
section
variable {K : Fg} {c : Ctx} {O : List Kd} {vs : List Nat}
theorem own_at {F H : Hp} {σ : St} {fps : Nat → List Addr} {ds : DS} {j : Nat} {ys : List D} (r : Rel K c O F H σ fps ds) (hk : lsish (O.getD j .sh) = true) (h : ds[j]? = some (some (.list ys))) :
    ∃ p xs, σ[j]? = some (some (.ref p)) ∧ H p = some (.lst xs) ∧ DpAll K F xs ys := by
  obtain ⟨v, hv, ow⟩ := r.slots j _ h
  obtain ⟨p, xs, ds', rfl, e, hp, _, al⟩ := ow_ls hk ow
  cases e
  exact ⟨p, xs, hv, hp, al⟩
theorem o_lcS {k : Kd} (j : Nat) {g : TG} {mg : MG} {tt : TT} {mt : M Bool} {te : TE} {me : M D} (hg : ∀ c' : Ctx, DV K c' O vs g mg) (ht : ∀ c' : Ctx, DT K c' O tt mt) (he : ∀ c' : Ctx, DO K c' O k te me)
    (hv : ∀ v ∈ vs, O[v]? = some .sh) (hj : j ∉ vs := by decide) (hk : lsish (O.getD j .sh) = true := by rfl) : DO K c O (.ls k) (tLc (iSeq K (tVar j)) g tt te vs) (mLcS j mg mt me vs) := ⟨fun {F H σ fps ds ds' d} r e Q q => by
  unfold mLcS at e
  split at e
  · rename_i zs hz
    cases e2 : lclS j mg mt me vs zs.length 0 (wipeD ds vs) with
    | no => rw [e2] at e; cases e
    | ok ys s2 =>
      rw [e2] at e
      dsimp only at e
      split at e
      · rename_i hf
        cases e
        have hfit := fits_of hf
        obtain ⟨a, xs0, ha, hp0, _⟩ := own_at r hk hz
        refine .inl ⟨_, ha, a, rfl, ⟨xs0, SqL.of hp0⟩, fun p hp => ?_⟩
        obtain ⟨pF, p0, pq⟩ := r.fresh hp
        have r1' := (r.allocO hp (.lst [])).wiped hv
        have wj : ∀ τ : St, wipe τ vs = wipe σ vs → τ[j]? = some (some (.ref a)) := fun τ h => by rw [← wipe_get τ vs j hj, h, wipe_get σ vs j hj]; exact ha
        refine ⟨fun i m Hc => ∃ Fc fpc dc acc yc fs rest, Same F Fc ∧ Rel K c O Fc Hc (wipe σ vs) fpc dc ∧ Acc K c k Fc Hc fpc p acc yc fs ∧ lclS j mg mt me vs m i dc = .ok rest s2 ∧ yc ++ rest = ys,
          ⟨zs.length, F, fps, _, [], [], [], ys, Same.refl _, r1', ⟨upd_same, fun q hq => ?_, .nil, by simp⟩, e2, by simp⟩, ?_⟩
        · have : q = p := by simpa using hq
          subst this
          exact ⟨pF, by rw [upd_same]; simp, p0, pq⟩
        rintro i m Hc ⟨Fc, fpc, dc, acc, yc, fs, rest, sc, rc, ac, el, ey⟩
        cases m with
        | zero =>
          unfold lclS at el
          split at el
          · rename_i ws hw
            split at el
            · rename_i hle
              cases el
              obtain ⟨a', xs', ha', hpa, al⟩ := own_at rc hk hw
              rw [wj _ (wipe_wipe _ _)] at ha'
              cases ha'
              refine .inl ⟨⟨xs', SqL.of hpa, by rw [dpa_len al]; exact hle⟩, ?_⟩
              rw [List.append_nil] at ey
              subst ey
              refine q Fc Hc _ (.ref p) (p :: fs.flatten) sc (r.backed rc (wipe_wipe _ _) sc hv) ⟨p, acc, yc, fs, rfl, rfl, ac.at_, rfl, ac.al⟩ (fun q' hq' => ?_) ac.nd
              obtain ⟨a1, a2, a3, a4⟩ := ac.off q' hq'
              refine ⟨a1, a2, a3, fun j => ?_⟩
              by_cases z : j ∈ vs
              · simp only [if_pos z]; simp
              · simp only [if_neg z]; exact a4 j
            · cases el
          · cases el
        | succ n =>
          unfold lclS at el
          split at el
          · rename_i ws hw
            split at el
            · cases el
            · rename_i d0 hx
              obtain ⟨a', xs', ha', hpa, al⟩ := own_at rc hk hw
              rw [wj _ (wipe_wipe _ _)] at ha'
              cases ha'
              obtain ⟨v0, hv0, dp0⟩ := dpa_get al hx
              refine .inr ⟨⟨xs', v0, SqL.of hpa, hv0⟩, fun Hn => ∃ Fc fpc dc acc yc fs rest, Same F Fc ∧ Rel K c O Fc Hn (wipe σ vs) fpc dc ∧ Acc K c k Fc Hn fpc p acc yc fs ∧ lclS j mg mt me vs n (i + 1) dc = .ok rest s2 ∧ yc ++ rest = ys, fun Hn h => ⟨n, by omega, h⟩, fun x H3 hy => ?_⟩
              obtain ⟨e3, hy⟩ := hy
              subst e3
              have hxv := hy xs' (SqL.of hpa)
              rw [hv0] at hxv
              cases hxv
              have rf := rc.focus
              split at el
              · cases el
              · rename_i s4 hs4
                refine (hg _).run rf dp0 hs4 _ fun σ4 fps4 r4 e4 => ⟨by rw [e4, wipe_wipe], ?_⟩
                have e4' : wipe σ4 vs = wipe σ vs := by rw [e4, wipe_wipe]
                cases e5 : mt s4 with
                | no => rw [e5] at el; cases el
                | ok b s5 =>
                  rw [e5] at el
                  refine (ht _).run r4 e5 _ fun F5 H5 fps5 sF5 r5 => ?_
                  cases b with
                  | false =>
                    refine iteF ?_
                    have r6 := (rc.unfocus' r5).wiped hv
                    rw [e4'] at r6
                    exact ⟨F5, fps5, _, acc, yc, fs, rest, sc.trans sF5, r6, ac.step sF5 r5, el, ey⟩
                  | true =>
                    refine iteT ?_
                    dsimp only at el
                    cases e6 : me s5 with
                    | no => rw [e6] at el; cases el
                    | ok y s6 =>
                      rw [e6] at el
                      dsimp only at el
                      cases e7 : lclS j mg mt me vs n (i + 1) (wipeD s6 vs) with
                      | no => rw [e7] at el; cases el
                      | ok rs s7 =>
                        rw [e7] at el
                        cases el
                        refine (he _).run r5 e6 _ fun F6 H6 fps6 u fpu sF6 r6 ow hfu ndu => ?_
                        have hs : Same Fc F6 := sF5.trans sF6
                        have a6 := ac.step hs r6
                        have r7 := rc.unfocus' r6
                        have hl : acc.length = yc.length := ac.al.len.1
                        refine ⟨acc, a6.at_, ?_, ?_⟩
                        · rw [hl]
                          have : yc.length + (y :: rs).length = ys.length := by rw [← ey, List.length_append]
                          rw [List.length_cons] at this
                          omega
                        · obtain ⟨pF6, pH6, p06, pq6⟩ := a6.off p List.mem_cons_self
                          have r8 := (r7.updO pF6 p06 pq6 (.lst (acc ++ [u]))).wiped hv
                          rw [e4'] at r8
                          have hpu : p ∉ fpu := fun z => by
                            have := (hfu p z).2.2.1
                            have hh : (c.from O Fc H3 fpc).H0 p = H3 p := from_some fun ⟨i, hi, _⟩ => (ac.off p List.mem_cons_self).2.2.2 i hi
                            rw [hh] at this
                            exact (ac.off p List.mem_cons_self).2.1 this
                          have hfr : ∀ q ∈ fs.flatten, q ∉ fpu := fun q hq z => by
                            have := (hfu q z).2.2.1
                            have hh : (c.from O Fc H3 fpc).H0 q = H3 q := from_some fun ⟨i, hi, _⟩ => (ac.off q (List.mem_cons_of_mem _ hq)).2.2.2 i hi
                            rw [hh] at this
                            exact (ac.off q (List.mem_cons_of_mem _ hq)).2.1 this
                          have hpf : p ∉ fs.flatten := (List.nodup_cons.mp ac.nd).1
                          refine ⟨F6, fps6, _, acc ++ [u], yc ++ [y], fs ++ [fpu], rs, sc.trans hs, r8, ⟨upd_same, fun q hq => ?_, ?_, ?_⟩, e7, by rw [List.append_assoc]; exact ey⟩
                          · rcases List.mem_cons.mp hq with z | hq
                            · subst z
                              exact ⟨pF6, by rw [upd_same]; simp, p06, pq6⟩
                            · rw [List.flatten_append, List.mem_append] at hq
                              rcases hq with hq | hq
                              · obtain ⟨b1, b2, b3, b4⟩ := a6.off q (List.mem_cons_of_mem _ hq)
                                have hne : q ≠ p := fun z => hpf (z ▸ hq)
                                exact ⟨b1, by rw [upd_ne hne]; exact b2, b3, b4⟩
                              · have hq : q ∈ fpu := by simpa using hq
                                obtain ⟨b1, b2, b3, b4⟩ := hfu q hq
                                have hne : q ≠ p := fun z => hpu (z ▸ hq)
                                refine ⟨b1, by rw [upd_ne hne]; exact b2, ?_, b4⟩
                                rcases from_none b3 with ⟨j, hj, hpm⟩ | h
                                · rcases (rc.off j q hj).2.2 with h | ⟨_, h⟩
                                  · exact h
                                  · rw [hpm] at h; cases h
                                · exact rc.live q h
                          · refine All3.snoc ?_ (a6.al.imp fun x1 y1 z1 hz1 ow1 => ow_mono (Same.refl _) ow1 fun q hq => upd_ne fun z => hpf (z ▸ List.mem_flatten.mpr ⟨z1, hz1, hq⟩))
                            exact ow_mono (Same.refl _) ow fun q hq => upd_ne fun z => hpu (z ▸ hq)
                          · rw [List.flatten_append]
                            have e9 : [fpu].flatten = fpu := by simp
                            rw [e9]
                            refine List.nodup_cons.mpr ⟨fun z => ?_, ?_⟩
                            · rcases List.mem_append.mp z with z | z
                              · exact hpf z
                              · exact hpu z
                            · exact List.nodup_append.mpr ⟨(List.nodup_cons.mp ac.nd).2, ndu, fun a ha b hb z => hfr a ha (z ▸ hb)⟩
          · cases el
      · cases e
  · cases e⟩
end
/-! ### run -/
def Lc0 (g : MG) (t : M Bool) (e : M D) (vs : List Nat) (xs : List D) (s : DS) (Q : List D → DS → Prop) : Prop := match lcl g t e vs xs s with
  | .ok ys s' => Q ys s'
  | .no => False
@[irreducible] def Lc (xs : List D) (s : DS) (g : MG) (t : M Bool) (e : M D) (vs : List Nat) (Q : List D → DS → Prop) (_ : W5 g t e vs Q := Unit.unit) : Prop := Lc0 g t e vs xs s Q
theorem ev_lc_0 {mi : M (List D)} {g : MG} {t : M Bool} {e : M D} {vs : List Nat} {s : DS} {Q : D → DS → Prop} : Ev0 (mLc mi g t e vs) s Q = Ev0 mi s fun xs s1 => Lc0 g t e vs xs (wipeD s1 vs) fun ys s2 => fits ys.length = true ∧ Q (.list ys) (back s1 s2 vs) := by
  unfold Ev0 mLc Lc0
  cases mi s with
  | no => rfl
  | ok xs s1 =>
    dsimp only
    cases lcl g t e vs xs (wipeD s1 vs) with
    | no => rfl
    | ok ys s2 =>
      dsimp only
      cases fits ys.length <;> simp
theorem ev_lc {mi : M (List D)} {g : MG} {t : M Bool} {e : M D} {vs : List Nat} {s : DS} {Q : D → DS → Prop} : Ev (mLc mi g t e vs) s Q = Ev mi s fun xs s1 => Lc xs (wipeD s1 vs) g t e vs fun ys s2 => fits ys.length = true ∧ Q (.list ys) (back s1 s2 vs) := by with_unfolding_all exact ev_lc_0
theorem ev_yes {s : DS} {Q : Bool → DS → Prop} : Ev mYes s Q = Q true s := by with_unfolding_all exact nr rfl
theorem lc_by {xs : List D} {s : DS} {g : MG} {t : M Bool} {e : M D} {vs : List Nat} {Q : List D → DS → Prop} (I : Nat → List D → DS → Prop) (h0 : I 0 [] s)
    (ht : ∀ i d ys s1, xs[i]? = some d → I i ys s1 → So (g d s1) fun s2 => Ev t s2 fun b s3 => Br b (Ev e s3 fun y s4 => I (i + 1) (ys ++ [y]) (wipeD s4 vs)) (I (i + 1) ys (wipeD s3 vs))) (he : ∀ ys s1, I xs.length ys s1 → Q ys s1) : Lc xs s g t e vs Q := by
  have key : ∀ (n i : Nat) (ys : List D) (s1 : DS), n + i = xs.length → I i ys s1 → Lc0 g t e vs (xs.drop i) s1 fun zs s2 => Q (ys ++ zs) s2 := fun n => by
    induction n with
    | zero =>
      intro i ys s1 hn hI
      have : i = xs.length := by omega
      subst this
      rw [List.drop_of_length_le (Nat.le_refl _)]
      unfold Lc0 lcl
      dsimp only
      rw [List.append_nil]
      exact he ys s1 hI
    | succ n ih =>
      intro i ys s1 hn hI
      have hlt : i < xs.length := by omega
      rw [List.drop_eq_getElem_cons hlt]
      have h := ht i xs[i] ys s1 (List.getElem?_eq_getElem hlt) hI
      have h : So0 (g xs[i] s1) fun s2 => Ev0 t s2 fun b s3 => Br0 b (Ev0 e s3 fun y s4 => I (i + 1) (ys ++ [y]) (wipeD s4 vs)) (I (i + 1) ys (wipeD s3 vs)) := by with_unfolding_all exact h
      unfold Lc0 lcl
      unfold So0 at h
      cases eg : g xs[i] s1 with
      | none => rw [eg] at h; exact h
      | some s2 =>
        rw [eg] at h
        dsimp only at h ⊢
        unfold Ev0 at h
        cases et : t s2 with
        | no => rw [et] at h; exact h
        | ok b s3 =>
          rw [et] at h
          cases b with
          | false => exact ih (i + 1) ys (wipeD s3 vs) (by omega) (by simpa [Br0] using h)
          | true =>
            dsimp only at h ⊢
            cases ee : e s3 with
            | no => rw [ee] at h; simp [Br0] at h
            | ok y s4 =>
              rw [ee] at h
              have h : I (i + 1) (ys ++ [y]) (wipeD s4 vs) := by simpa [Br0] using h
              have := ih (i + 1) (ys ++ [y]) (wipeD s4 vs) (by omega) h
              unfold Lc0 at this
              dsimp only
              cases el : lcl g t e vs (xs.drop (i + 1)) (wipeD s4 vs) with
              | no => rw [el] at this; exact this
              | ok zs s5 =>
                rw [el] at this
                dsimp only at this ⊢
                rw [List.append_assoc] at this
                exact this
  have := key xs.length 0 [] s (by omega) h0
  with_unfolding_all exact this
/-- a comprehension that changes nothing -/
theorem lc_map {xs : List D} {s : DS} {g : MG} {t : M Bool} {e : M D} {vs : List Nat} {Q : List D → DS → Prop} (f : D → Option D)
    (ht : ∀ d ∈ xs, So (g d s) fun s2 => Ev t s2 fun b s3 => Br b (Ev e s3 fun y s4 => f d = some y ∧ wipeD s4 vs = s) (f d = none ∧ wipeD s3 vs = s)) (he : Q (xs.filterMap f) s) : Lc xs s g t e vs Q := by
  refine lc_by (fun i ys s1 => s1 = s ∧ ys = (xs.take i).filterMap f) ⟨rfl, by simp⟩ (fun i d ys s1 hd hI => ?_) fun ys s1 hI => ?_
  · obtain ⟨rfl, rfl⟩ := hI
    have hx : xs.take (i + 1) = xs.take i ++ [d] := by rw [List.take_add_one, hd]; rfl
    have h := ht d (List.mem_of_getElem? hd)
    have conv : ∀ {o : Option DS} {P P' : DS → Prop}, So o P → (∀ a, P a → P' a) → So o P' := fun {o P P'} h f => by
      have h : So0 o P := by with_unfolding_all exact h
      have : So0 o P' := by
        unfold So0 at h ⊢
        cases o with
        | none => exact h
        | some a => exact f a h
      with_unfolding_all exact this
    refine conv h fun s2 h => ev_mono h fun b s3 h => br_i (fun hb => ?_) fun hb => ?_
    · subst hb
      rw [br_t] at h
      refine ev_mono h fun y s4 h => ⟨h.2, ?_⟩
      rw [hx, List.filterMap_append]
      simp [h.1]
    · subst hb
      rw [br_f] at h
      refine ⟨h.2, ?_⟩
      rw [hx, List.filterMap_append]
      simp [h.1]
  · obtain ⟨rfl, rfl⟩ := hI
    rw [List.take_length]
    exact he
theorem wpD0 {s : DS} : wipeD s [] = s := nr rfl
theorem wpDC {s : DS} {v : Nat} {vs : List Nat} : wipeD s (v :: vs) = (wipeD s vs).set v none := nr rfl
theorem bk0 {s1 s2 : DS} : back s1 s2 [] = s2 := nr rfl
def oat (s : DS) (v : Nat) : Option D := s[v]?.getD none
theorem bkC {s1 s2 : DS} {v : Nat} {vs : List Nat} : back s1 s2 (v :: vs) = (back s1 s2 vs).set v (oat s1 v) := nr rfl
theorem oat0 {x : Option D} {s : DS} : oat (x :: s) 0 = x := nr rfl
theorem oatS {x : Option D} {s : DS} {n : Nat} : oat (x :: s) (n + 1) = oat s n := nr rfl
/-- .. of one's own -/
theorem lcS_map {j : Nat} {xs : List D} {s : DS} {g : MG} {t : M Bool} {e : M D} {vs : List Nat} {Q : D → DS → Prop} (f : D → Option D) (hj : look s j = some (.list xs)) (hn : j ∉ vs)
    (ht : ∀ d ∈ xs, So (g d (wipeD s vs)) fun s2 => Ev t s2 fun b s3 => Br b (Ev e s3 fun y s4 => f d = some y ∧ wipeD s4 vs = wipeD s vs) (f d = none ∧ wipeD s3 vs = wipeD s vs))
    (hf : fits (xs.filterMap f).length = true) (he : Q (.list (xs.filterMap f)) (back s (wipeD s vs) vs)) : Ev (mLcS j g t e vs) s Q := by
  have hj1 : s[j]? = some (some (.list xs)) := look_some hj
  have hj2 : (wipeD s vs)[j]? = some (some (.list xs)) := by rw [wipeD_get _ _ _ hn]; exact hj1
  have key : ∀ (n i : Nat), n + i = xs.length → lclS j g t e vs n i (wipeD s vs) = .ok ((xs.drop i).filterMap f) (wipeD s vs) := fun n => by
    induction n with
    | zero =>
      intro i hi
      unfold lclS
      rw [hj2, List.drop_of_length_le (by omega)]
      simp only
      rw [if_pos (by omega)]
      rfl
    | succ n ih =>
      intro i hi
      have hlt : i < xs.length := by omega
      have h := ht xs[i] (List.getElem_mem hlt)
      have h : So0 (g xs[i] (wipeD s vs)) fun s2 => Ev0 t s2 fun b s3 => Br0 b (Ev0 e s3 fun y s4 => f xs[i] = some y ∧ wipeD s4 vs = wipeD s vs) (f xs[i] = none ∧ wipeD s3 vs = wipeD s vs) := by with_unfolding_all exact h
      unfold lclS
      rw [hj2, List.drop_eq_getElem_cons hlt, List.filterMap_cons]
      simp only
      rw [List.getElem?_eq_getElem hlt]
      simp only
      unfold So0 at h
      cases eg : g xs[i] (wipeD s vs) with
      | none => rw [eg] at h; exact h.elim
      | some s2 =>
        rw [eg] at h
        dsimp only at h ⊢
        unfold Ev0 at h
        cases et : t s2 with
        | no => rw [et] at h; exact h.elim
        | ok b s3 =>
          rw [et] at h
          cases b with
          | false =>
            have h : f xs[i] = none ∧ wipeD s3 vs = wipeD s vs := by simpa [Br0] using h
            simp only [h.1, h.2]
            exact ih (i + 1) (by omega)
          | true =>
            dsimp only at h
            simp only
            cases ee : e s3 with
            | no => rw [ee] at h; simp [Br0] at h
            | ok y s4 =>
              rw [ee] at h
              have h : f xs[i] = some y ∧ wipeD s4 vs = wipeD s vs := by simpa [Br0] using h
              simp only [h.1, h.2, ih (i + 1) (by omega)]
  have : Ev0 (mLcS j g t e vs) s Q := by
    unfold Ev0 mLcS
    rw [hj1]
    simp only
    rw [key xs.length 0 (by omega), List.drop_zero]
    simp only
    rw [if_pos hf]
    exact he
  with_unfolding_all exact this
section
variable {X : Cx} {K : Fg} {O : List Kd} {k : Kd} {mt : M Bool} {me : M D}
/-- pe_lc, its parts' readings told by what they do -/
theorem pe_lcD {elt tg iter : Expr} {ifs : List Expr} {scope : Scope} {own : List (Str × Nat)} {pos : Pos} {wi : TI} {g : TG} {tt : TT} {te : TE} (_ : ∀ c : Ctx, DT K c O tt mt) (_ : ∀ c : Ctx, DO K c O k te me) (hc : X.calm = true) (hN : X.N.Nodup) (hi : PI X tg iter wi) (ok : BlkOk X.N X.env.scope scope own)
    (hg : ∀ (s : Shared) (H : Hp) (C : Addr) (cl : List (Str × Addr)) (fp : List Addr), PG (X.blk s H scope (compEnvC scope cl C X.env) fp) tg g) (ht : ∀ (s : Shared) (H : Hp) (C : Addr) (cl : List (Str × Addr)) (fp : List Addr), PTs (X.blk s H scope (compEnvC scope cl C X.env) fp) ifs tt)
    (he : ∀ (s : Shared) (H : Hp) (C : Addr) (cl : List (Str × Addr)) (fp : List Addr), PE (X.blk s H scope (compEnvC scope cl C X.env) fp) elt te) (hs : ∀ x, foldedSetIterable iter X.env x = pure x := by intro _; rfl) :
    PE X (.ListComp elt [⟨tg, iter, ifs, 0⟩] scope pos) (tLc wi g tt te (own.map (·.2))) := pe_lc hc hN hi ok hg ht he hs
theorem ps_setLcD {i : Nat} {y : Str} {py : Pos} {elt tg iter : Expr} {ifs : List Expr} {scope : Scope} {own : List (Str × Nat)} {pos spos : Pos} {wi : TI} {g : TG} {tt : TT} {te : TE} (_ : ∀ c : Ctx, DT K c O tt mt) (_ : ∀ c : Ctx, DO K c O k te me) (hc : X.calm = true) (hN : X.N.Nodup) (hy : X.N[i]? = some y) (hyl : X.env.scope.names.lookup y = some .local)
    (hsw : swapsWith (.ListComp elt [⟨tg, iter, ifs, 0⟩] scope pos) (some (.Name y py)) spos.line X.env = pure true) (hi : PI X tg iter wi) (ok : BlkOk X.N X.env.scope scope own)
    (hg : ∀ (s : Shared) (H : Hp) (C : Addr) (cl : List (Str × Addr)) (fp : List Addr), PG (X.blk s H scope (compEnvC scope cl C X.env) fp) tg g) (ht : ∀ (s : Shared) (H : Hp) (C : Addr) (cl : List (Str × Addr)) (fp : List Addr), PTs (X.blk s H scope (compEnvC scope cl C X.env) fp) ifs tt)
    (he : ∀ (s : Shared) (H : Hp) (C : Addr) (cl : List (Str × Addr)) (fp : List Addr), PE (X.blk s H scope (compEnvC scope cl C X.env) fp) elt te) (hs : ∀ x, foldedSetIterable iter X.env x = pure x := by intro _; rfl) :
    PS X (.Assign [.Name y py] (.ListComp elt [⟨tg, iter, ifs, 0⟩] scope pos) spos) (tAsg (tLc wi g tt te (own.map (·.2))) (gName i)) := ps_setLc hc hN hy hyl hsw hi ok hg ht he hs
end
end Z
set_option Elab.async false
set_option linter.all false
set_option maxRecDepth 100000
namespace Z
open PySem L2
/-! ### extend, reversed copies, bit_length, enumerate -/
def sExt (i : Nat) (m : M D) : MS := fun s => match s[i]? with
  | some (some (.list _)) => match m s with
    | .ok (.list ys) s' => match s'[i]? with
      | some (some (.list xs)) => if fits (xs.length + ys.length) then .nx (s'.set i (some (.list (xs ++ ys)))) else .no
      | _ => .no
    | _ => .no
  | _ => .no
section
variable {K : Fg} {c : Ctx} {O Ob : List Kd} {te : TE} {m : M D} {b1 : M BR}
theorem c_ext (i : Nat) (h : DO K c O (.ls .sh) te m) (hk : lsish (O.getD i .sh) = true := by rfl) : DC K c Ob O (tDrop (tBM K "list" rExtend (tVar i) (tCons te tNil))) (sExt i m) O := ⟨fun {F H σ fps ds} r E p => by
  unfold sExt at p
  split at p
  · rename_i ys hy
    obtain ⟨v, hv, ow⟩ := r.slots i _ hy
    obtain ⟨q0, zs, es, rfl, _, hq0, _, _⟩ := ow_ls hk ow
    refine ⟨_, hv, .inl ⟨rfl, zs, SqL.of hq0⟩, ?_⟩
    split at p
    · rename_i ys' s' e
      split at p
      · rename_i xs hx
        split at p
        · rename_i hz
          refine h.run r e _ fun F1 H1 fps1 w fpw s1 r1 oww hfw ndw => ?_
          obtain ⟨v1, hv1, ow1⟩ := r1.slots i _ hx
          obtain ⟨q1, zs1, es1, rfl, e2, hq1, hfp, al⟩ := ow_ls hk ow1
          cases e2
          have e3 : q1 = q0 := by rw [hv] at hv1; cases hv1; rfl
          subst e3
          obtain ⟨b, ws, es2, rfl, e4, hb, _, al2⟩ := ow_ls (k := .ls .sh) rfl oww
          cases e4
          refine ⟨_, b, zs1, ws, rfl, rfl, hq1, hb, by rw [dpa_len al, dpa_len al2]; exact fits_of hz, ?_⟩
          exact p F1 _ σ fps1 s1 (r1.mut hk ⟨_, hx⟩ hv hfp (dpa_append al al2))
        · exact p.elim
      · exact p.elim
    · exact p.elim
  · exact p.elim⟩
def revD : D → Option D
  | .list xs => some (.list xs.reverse)
  | _ => none
theorem dpa_rev {F : Hp} {vs : List V} {ds : List D} (h : DpAll K F vs ds) : DpAll K F vs.reverse ds.reverse := by
  induction h using DpAll.rec (motive_1 := fun _ _ _ => True) with
  | nil => exact .nil
  | cons h _ _ ih =>
    rw [List.reverse_cons, List.reverse_cons]
    exact dpa_append ih (.cons h .nil)
  | _ => trivial
theorem d_rev (h : DB K c O te b1) : DE K c O (tRevL K te) (mUn revD b1) := ⟨fun {F H σ fps ds ds' d} rl e Q q => by
  obtain ⟨x, s1, e1, g2⟩ := bnd_ok e
  refine h.run rl e1 _ fun F1 H1 fps1 v sF r1 bv => ?_
  split at g2
  · rename_i dx hx
    obtain ⟨g3, z⟩ := opt_ok g2
    subst z
    unfold revD at g3
    split at g3
    · cases g3
      obtain ⟨a, xs, rfl, sq, al⟩ := (Bm.vw r1 bv hx).lst r1.sub
      refine ⟨a, xs, rfl, sq, fun p hp => ?_⟩
      have s2 : Same F1 (upd F1 p (.lst xs.reverse)) := same_upd (r1.fresh hp).1
      exact q _ _ fps1 (.ref p) (sF.trans s2) (r1.alloc hp _) (.lst (SqL.of upd_same) (dpa_mono s2 (dpa_rev al)))
    · cases g3
  · cases g2⟩
def bitsD : D → Option D
  | .int i => some (.int (Builtin.Int.intBits i : Nat))
  | _ => none
theorem d_bits (h : DE K c O te m) : DE K c O (tBits te) (mUn bitsD (mV m)) := ⟨fun {F H σ fps ds ds' d} rl e Q q => by
  obtain ⟨x, s1, e1, g2⟩ := bnd_ok e
  obtain ⟨y, s2, e2, g3⟩ := bnd_ok e1
  cases g3
  refine h.run rl e2 _ fun F1 H1 fps1 v sF r1 dp => ?_
  simp only [res] at g2
  obtain ⟨g4, z⟩ := opt_ok g2
  subst z
  unfold bitsD at g4
  split at g4
  · cases g4
    cases dp
    exact ⟨_, rfl, q F1 H1 fps1 _ sF r1 (.int _)⟩
  · cases g4⟩
def enumD (xs : List D) : List D := xs.mapIdx fun i x => .tuple [.int i, x]
def mEnum (ml : M (List D)) : M (List D) := bnd ml fun ds => opt (match ds with | [.list xs] => some (enumD xs) | _ => none)
theorem enumD_get {xs : List D} {i : Nat} : (enumD xs)[i]? = (xs[i]?).map fun x => .tuple [.int i, x] := by
  unfold enumD
  rw [List.getElem?_mapIdx]
theorem enumD_len {xs : List D} : (enumD xs).length = xs.length := by unfold enumD; rw [List.length_mapIdx]
theorem walk_e {F : Hp} {a : Addr} {xs : List V} {ds : List D} (hq : SqL K F a xs) (al : DpAll K F xs ds) : Walks K F (Ite K a) (enumD ds) := fun F1 H1 i s1 s2 => by
  have hq1 := sqL_mono s2 (sqL_mono s1 hq)
  refine ⟨fun d hd => ?_, fun hi => ⟨xs, hq1, by rw [dpa_len al, hi, enumD_len]; exact Nat.le_refl _⟩⟩
  rw [enumD_get] at hd
  cases hx : ds[i]? with
  | none => rw [hx] at hd; cases hd
  | some x =>
    rw [hx] at hd
    cases hd
    obtain ⟨v, hv, dp⟩ := dpa_get al hx
    refine ⟨⟨xs, v, hq1, hv⟩, fun y H2 hy => ?_⟩
    obtain ⟨T, x', rfl, hT, rfl, hx'⟩ := hy
    have e := hx' xs hq1
    rw [hv] at e
    cases e
    have s3 : Same F1 (upd F1 T (.tup [.int (i : Nat), v])) := same_upd (s2.free hT)
    exact ⟨_, .new _ hT, .tup (SqT.of upd_same) (.cons (.int _) (.cons (dp_mono s3 (dp_mono s1 dp)) .nil))⟩
theorem i_enum {tl : TA} {ml : M (List D)} (h : DA K c O tl ml) : DI K c O (iEnum K tl) (mEnum ml) := ⟨fun {F H σ fps ds ds' xs} r e R q => by
  obtain ⟨es, s1, e1, g1⟩ := bnd_ok e
  obtain ⟨g2, z⟩ := opt_ok g1
  subst z
  split at g2
  · cases g2
    refine h.run r e1 _ fun F1 H1 fps1 vs sF r1 al => ?_
    cases al with
    | cons dp al =>
      cases al
      cases dp with
      | lst hq al => exact ⟨_, _, rfl, sqL_mono r1.sub hq, q F1 H1 fps1 _ sF r1 (walk_e hq al)⟩
  · cases g2⟩
end
section
variable {s : DS} {Nx : DS → Prop} {Rt : D → DS → Prop} {Bk Ct : DS → Prop} {Ex : Xc → DS → Prop}
theorem run_ext_0 {i : Nat} {m : M D} : Run0 (sExt i m) s Nx Rt Bk Ct Ex = So0 (look s i) fun d0 => So0 (lof d0) fun _ => Ev0 m s fun d s' => So0 (lof d) fun ys => So0 (look s' i) fun d1 => So0 (lof d1) fun xs => fits (xs.length + ys.length) = true ∧ Nx (s'.set i (some (.list (xs ++ ys)))) := by
  unfold look
  dsimp only [Run0, sExt]
  cases h : s[i]? with
  | none => rfl
  | some o =>
    cases o with
    | none => rfl
    | some d0 =>
      cases d0 <;> try rfl
      unfold Ev0
      cases m s with
      | no => rfl
      | ok d s' =>
        cases d <;> try rfl
        dsimp only [So0, lof]
        cases h' : s'[i]? with
        | none => rfl
        | some o =>
          cases o with
          | none => rfl
          | some d1 =>
            cases d1 <;> try rfl
            rename_i ys l xs
            dsimp only
            cases fits (xs.length + l.length) <;> simp
theorem run_ext {i : Nat} {m : M D} : Run (sExt i m) s Nx Rt Bk Ct Ex = So (look s i) fun d0 => So (lof d0) fun _ => Ev m s fun d s' => So (lof d) fun ys => So (look s' i) fun d1 => So (lof d1) fun xs => fits (xs.length + ys.length) = true ∧ Nx (s'.set i (some (.list (xs ++ ys)))) := by with_unfolding_all exact run_ext_0
theorem so_rev {l : List D} {Q : D → Prop} : So (revD (.list l)) Q = Q (.list l.reverse) := by with_unfolding_all exact nr rfl
theorem so_bits {i : Int} {Q : D → Prop} : So (bitsD (.int i)) Q = Q (.int (Builtin.Int.intBits i : Nat)) := by with_unfolding_all exact nr rfl
def en1 : List D → Option (List D)
  | [.list xs] => some (enumD xs)
  | _ => none
theorem ev_enum {m : M (List D)} {Q : List D → DS → Prop} : Ev (mEnum m) s Q = Ev m s fun d s' => So (en1 d) fun xs => Q xs s' := by
  unfold mEnum
  rw [ev_bnd]
  have e : ∀ (d : List D) (s' : DS), Ev (opt (match d with | [.list xs] => some (enumD xs) | _ => none)) s' Q = So (en1 d) fun xs => Q xs s' := fun d s' => by
    rw [ev_opt]
    unfold en1
    rfl
  have e2 : (fun d s' => Ev (opt (match d with | [.list xs] => some (enumD xs) | _ => none)) s' Q) = fun d s' => So (en1 d) fun xs => Q xs s' := funext fun d => funext fun s' => e d s'
  rw [e2]
theorem so_en {l : List D} {Q : List D → Prop} : So (en1 [.list l]) Q = Q (enumD l) := by with_unfolding_all exact nr rfl
end
end Z
namespace Z
open PySem L2
/-- xs + ys, a list of one's own -/
def catD : D → D → Option D
  | .list xs, .list ys => if fits (xs.length + ys.length) then some (.list (xs ++ ys)) else none
  | _, _ => none
theorem o_cat {K : Fg} {c : Ctx} {O : List Kd} {ta tb : TE} {b1 b2 : M BR} (ha : DB K c O ta b1) (hb : DB K c O tb b2) : DO K c O (.ls .sh) (tOp (rAddU K) ta tb) (mOp catD b1 b2) := ⟨fun {F H σ fps ds ds' d} rl e Q q => by
  obtain ⟨x, s1, e1, g1⟩ := bnd_ok e
  obtain ⟨y, s2, e2, g2⟩ := bnd_ok g1
  refine ha.run rl e1 _ fun F1 H1 fps1 v sF r1 bv => ?_
  refine hb.run r1 e2 _ fun F2 H2 fps2 u sF2 r2 bu => ?_
  split at g2
  · rename_i dx dy hx hy
    obtain ⟨g3, z⟩ := opt_ok g2
    subst z
    unfold catD at g3
    split at g3
    · split at g3
      · rename_i hf
        cases g3
        obtain ⟨p, xs, rfl, sq, al⟩ := (Bm.vw r2 (bv.mono sF2) hx).lst r2.sub
        obtain ⟨p2, xs2, rfl, sq2, al2⟩ := (Bm.vw r2 bu hy).lst r2.sub
        refine .inr (.inr (.inl ⟨p, p2, xs, xs2, rfl, rfl, sq, sq2, by rw [dpa_len al, dpa_len al2]; exact fits_of hf, fun l hl => ?_⟩))
        obtain ⟨hF, h0, hq⟩ := r2.fresh hl
        refine q F2 _ fps2 (.ref l) [l] (sF.trans sF2) (r2.allocO hl _) (ls_ow upd_same (dpa_append al al2)) (fun q' hq' => ?_) (by simp)
        have : q' = l := by simpa using hq'
        subst this
        exact ⟨hF, by rw [upd_same]; simp, h0, hq⟩
      · cases g3
    · cases g3
  · cases g2⟩
theorem so_catD {l k : List D} {Q : D → Prop} : So (catD (.list l) (.list k)) Q = (fits (l.length + k.length) = true ∧ Q (.list (l ++ k))) := by
  show So (if fits (l.length + k.length) then some (PyData.list (l ++ k)) else none) Q = _
  rw [so_if, so_some]
end Z
set_option Elab.async false
set_option linter.all false
set_option maxRecDepth 100000
namespace Z
open PySem L2
/-! ### == of things of bounded depth -/
def shp : Nat → D → Bool
  | _, .none => true
  | _, .bool _ => true
  | _, .int _ => true
  | _, .str x => PyData.canLay0 (.str x)
  | n + 1, .list xs => xs.all (shp n)
  | n + 1, .tuple xs => xs.all (shp n)
  | _, _ => false
theorem shp_lay : ∀ (n : Nat) (d : D), shp n d = true → PyData.canLay0 d = true ∧ PyData.depth d ≤ n := by
  intro n
  induction n with
  | zero =>
    intro d h
    cases d with
    | none => exact ⟨rfl, by simp [PyData.depth]⟩
    | bool b => exact ⟨rfl, by simp [PyData.depth]⟩
    | int b => exact ⟨rfl, by simp [PyData.depth]⟩
    | str b => exact ⟨by simpa [shp] using h, by simp [PyData.depth]⟩
    | list l => simp [shp] at h
    | tuple l => simp [shp] at h
    | dict l => simp [shp] at h
  | succ n ih =>
    have all : ∀ l : List D, l.all (shp n) = true → PyData.canLayAll0 l = true ∧ PyData.depthAll l ≤ n := fun l => by
      induction l with
      | nil => intro _; simp [PyData.canLayAll0, PyData.depthAll]
      | cons x l ihl =>
        intro h
        rw [List.all_cons, Bool.and_eq_true] at h
        obtain ⟨a, b⟩ := ih x h.1
        obtain ⟨c, e⟩ := ihl h.2
        simp [PyData.canLayAll0, PyData.depthAll, a, c]
        omega
    intro d h
    cases d with
    | none => exact ⟨rfl, by simp [PyData.depth]⟩
    | bool b => exact ⟨rfl, by simp [PyData.depth]⟩
    | int b => exact ⟨rfl, by simp [PyData.depth]⟩
    | str b => exact ⟨by simpa [shp] using h, by simp [PyData.depth]⟩
    | list l =>
      obtain ⟨a, b⟩ := all l (by simpa [shp] using h)
      exact ⟨by simpa [PyData.canLay0] using a, by simp [PyData.depth]; omega⟩
    | tuple l =>
      obtain ⟨a, b⟩ := all l (by simpa [shp] using h)
      exact ⟨by simpa [PyData.canLay0] using a, by simp [PyData.depth]; omega⟩
    | dict l => simp [shp] at h
theorem shaped_of {n : Nat} {d : D} (h : shp n d = true) (hn : n ≤ 63 := by decide) : SeqAt.shaped d = true := by
  obtain ⟨a, b⟩ := shp_lay n d h
  unfold SeqAt.shaped
  rw [a]
  simp
  omega
theorem eqv_same : ∀ (n : Nat) (d : D), shp n d = true → PyData.eqv d d = true := by
  intro n
  induction n with
  | zero =>
    intro d h
    cases d with
    | none => simp [PyData.eqv]
    | bool b => simp [PyData.eqv]
    | int b => simp [PyData.eqv]
    | str b => simp [PyData.eqv]
    | list l => simp [shp] at h
    | tuple l => simp [shp] at h
    | dict l => simp [shp] at h
  | succ n ih =>
    have all : ∀ l : List D, l.all (shp n) = true → PyData.eqvAll l l = true := fun l => by
      induction l with
      | nil => intro _; simp [PyData.eqvAll]
      | cons x l ihl =>
        intro h
        rw [List.all_cons, Bool.and_eq_true] at h
        simp [PyData.eqvAll, ih x h.1, ihl h.2]
    intro d h
    cases d with
    | none => simp [PyData.eqv]
    | bool b => simp [PyData.eqv]
    | int b => simp [PyData.eqv]
    | str b => simp [PyData.eqv]
    | list l => simpa [PyData.eqv] using all l (by simpa [shp] using h)
    | tuple l => simpa [PyData.eqv] using all l (by simpa [shp] using h)
    | dict l => simp [shp] at h
section
variable {x y : D} {Q : D → Prop}
theorem eqB_of (h1 : SeqAt.shaped x = true) (h2 : SeqAt.shaped y = true) : eqB x y = some (PyData.eqv x y) := by
  unfold eqB
  split
  · rw [PyData.eqv]
    exact congrArg some (Bool.beq_eq_decide_eq _ _).symm
  · rw [h1, h2]
    rfl
theorem so_eqd (h1 : SeqAt.shaped x = true) (h2 : SeqAt.shaped y = true) (q : Q (.bool (PyData.eqv x y))) : So (eqD x y) Q := by
  unfold eqD
  rw [eqB_of h1 h2, Option.map_some, so_some]
  exact q
theorem so_ned (h1 : SeqAt.shaped x = true) (h2 : SeqAt.shaped y = true) (q : Q (.bool (!PyData.eqv x y))) : So (neD x y) Q := by
  unfold neD
  rw [eqB_of h1 h2, Option.map_some, so_some]
  exact q
/-- equal things -/
theorem so_eq_s {n : Nat} (h : shp n x = true) (q : Q (.bool true)) (hn : n ≤ 63 := by decide) : So (eqD x x) Q := so_eqd (shaped_of h hn) (shaped_of h hn) (by rw [eqv_same n x h]; exact q)
theorem so_ne_s {n : Nat} (h : shp n x = true) (q : Q (.bool false)) (hn : n ≤ 63 := by decide) : So (neD x x) Q := so_ned (shaped_of h hn) (shaped_of h hn) (by rw [eqv_same n x h]; exact q)
theorem so_eqBB {a b : Bool} : So (eqD (.bool a) (.bool b)) Q = Q (.bool (a == b)) := by
  unfold eqD
  rw [eqB_of (shaped_of (n := 0) rfl) (shaped_of (n := 0) rfl), Option.map_some, so_some]
  simp [PyData.eqv]
theorem so_neBB {a b : Bool} : So (neD (.bool a) (.bool b)) Q = Q (.bool (!(a == b))) := by
  unfold neD
  rw [eqB_of (shaped_of (n := 0) rfl) (shaped_of (n := 0) rfl), Option.map_some, so_some]
  simp [PyData.eqv]
/-- a list against [] -/
theorem so_neNil {n : Nat} {l : List D} (h : shp n (.list l) = true) (q : Q (.bool (!l.isEmpty))) (hn : n ≤ 63 := by decide) : So (neD (.list l) (.list [])) Q := so_ned (shaped_of h hn) (shaped_of (n := 1) rfl) (by
  cases l with
  | nil => simpa [PyData.eqv, PyData.eqvAll] using q
  | cons a l => simpa [PyData.eqv, PyData.eqvAll] using q)
theorem so_eqNil {n : Nat} {l : List D} (h : shp n (.list l) = true) (q : Q (.bool l.isEmpty)) (hn : n ≤ 63 := by decide) : So (eqD (.list l) (.list [])) Q := so_eqd (shaped_of h hn) (shaped_of (n := 1) rfl) (by
  cases l with
  | nil => simpa [PyData.eqv, PyData.eqvAll] using q
  | cons a l => simpa [PyData.eqv, PyData.eqvAll] using q)
theorem shp_ints (ns : List Int) : shp 1 (.list (ns.map .int)) = true := by
  simp [shp]
theorem shp_rg (a b : Int) : shp 1 (.list (rgD a b)) = true := by
  simp [shp, rgD]
end
theorem at_last {α : Type} {l : List α} (v : α) : atI (l ++ [v]) (-1) = some v := atI_last l v
/-- two ways that join -/
theorem br_cut (P : DS → Prop) {x : Bool} {A B : MS} {s : DS} {Nx : DS → Prop} {Rt : D → DS → Prop} {Bk Ct : DS → Prop} {Ex : Xc → DS → Prop} (hA : x = true → Run A s P Rt Bk Ct Ex) (hB : x = false → Run B s P Rt Bk Ct Ex) (hN : ∀ s', P s' → Nx s') : Br x (Run A s Nx Rt Bk Ct Ex) (Run B s Nx Rt Bk Ct Ex) :=
  br_i (fun h => run_mono (hA h) hN (fun _ _ z => z) (fun _ z => z) (fun _ z => z) fun _ _ z => z) fun h => run_mono (hB h) hN (fun _ _ z => z) (fun _ z => z) (fun _ z => z) fun _ _ z => z
/-- a if t else b, either way one value -/
theorem br_ev {x : Bool} {a b : M D} {s : DS} {Q : D → DS → Prop} (v : D) (ha : x = true → Ev a s fun d s' => d = v ∧ s' = s) (hb : x = false → Ev b s fun d s' => d = v ∧ s' = s) (q : Q v s) : Br x (Ev a s Q) (Ev b s Q) :=
  br_i (fun h => ev_mono (ha h) fun d s' e => by rw [e.1, e.2]; exact q) fun h => ev_mono (hb h) fun d s' e => by rw [e.1, e.2]; exact q
/-- a or b as a value -/
theorem br_orV {x : Bool} {A : Prop} {b : M D} {s : DS} {Q : D → DS → Prop} (v : Bool) (ha : x = true → v = true) (hb : x = false → Ev b s fun d s' => d = .bool v ∧ s' = s) (q : Q (.bool v) s) (hA : Q (.bool true) s = A := by rfl) : Br x A (Ev b s Q) :=
  br_i (fun h => by rw [← hA, ← ha h]; exact q) fun h => ev_mono (hb h) fun d s' e => by rw [e.1, e.2]; exact q
theorem br_andV {x : Bool} {A : Prop} {b : M D} {s : DS} {Q : D → DS → Prop} (v : Bool) (ha : x = false → v = false) (hb : x = true → Ev b s fun d s' => d = .bool v ∧ s' = s) (q : Q (.bool v) s) (hA : Q (.bool false) s = A := by rfl) : Br x (Ev b s Q) A :=
  br_i (fun h => ev_mono (hb h) fun d s' e => by rw [e.1, e.2]; exact q) fun h => by rw [← hA, ← ha h]; exact q
end Z
set_option Elab.async false
set_option linter.all false
set_option maxRecDepth 100000
namespace Z
open PySem L2
/-! ### is, of truths -/
def isBl : D → D → Option D
  | .bool a, .bool b => some (.bool (decide (a = b)))
  | _, _ => none
def notBl : D → D → Option D
  | .bool a, .bool b => some (.bool (!decide (a = b)))
  | _, _ => none
theorem g_isBl {K : Fg} : OpG K rIsB isBl := fun F H x y dx dy d sF vx vy e Q q => by
  unfold isBl at e
  split at e
  · cases e
    rw [vx.bl, vy.bl]
    exact ⟨_, _, rfl, rfl, q F H _ .refl (.bl _)⟩
  · cases e
theorem g_notBl {K : Fg} : OpG K rNotB notBl := fun F H x y dx dy d sF vx vy e Q q => by
  unfold notBl at e
  split at e
  · cases e
    rw [vx.bl, vy.bl]
    exact ⟨_, _, rfl, rfl, q F H _ .refl (.bl _)⟩
  · cases e
theorem so_isBl {a b : Bool} {Q : D → Prop} : So (isBl (.bool a) (.bool b)) Q = Q (.bool (decide (a = b))) := by with_unfolding_all exact nr rfl
theorem so_notBl {a b : Bool} {Q : D → Prop} : So (notBl (.bool a) (.bool b)) Q = Q (.bool (!decide (a = b))) := by with_unfolding_all exact nr rfl
end Z
set_option Elab.async false
set_option linter.all false
set_option maxRecDepth 100000
namespace Z
open PySem L2
/-! ### a slot set aside, and put back -/
section
variable {K : Fg} {c : Ctx} {O : List Kd} {F H : Hp} {σ : St} {fps : Nat → List Addr} {ds : DS}
theorem Rel.aside (r : Rel K c O F H σ fps ds) (i : Nat) : Rel K c O F H σ (fun j => if j = i then [] else fps j) (ds.set i none) := by
  have sub : ∀ j q, q ∈ (if j = i then [] else fps j) → q ∈ fps j := fun j q h => by
    by_cases z : j = i
    · rw [if_pos z] at h; exact absurd h (by simp)
    · rw [if_neg z] at h; exact h
  refine ⟨r.sub, r.base, r.keep, r.live, r.new, fun j d e => ?_, fun j q hq => r.off j q (sub j q hq), fun j => ?_, fun j k hjk q hq hq' => r.dj j k hjk q (sub j q hq) (sub k q hq'), r.par, by rw [List.length_set]; exact r.len⟩
  · by_cases z : j = i
    · subst z
      by_cases hl : j < ds.length
      · rw [List.getElem?_set_self hl] at e; cases e
      · rw [List.getElem?_eq_none (by rw [List.length_set]; omega)] at e; cases e
    · rw [List.getElem?_set_ne (Ne.symm z)] at e
      simp only [if_neg z]
      exact r.slots j d e
  · by_cases z : j = i
    · simp only [if_pos z]; simp
    · simp only [if_neg z]; exact r.nd j
theorem Rel.again (r : Rel K c O F H σ fps ds) {i : Nat} {v : V} {d : D} {fp : List Addr} (hv : σ[i]? = some (some v)) (ow : Ow K F H (O.getD i .sh) v d fp)
    (hf : ∀ q ∈ fp, F q = none ∧ H q ≠ none ∧ (c.H0 q = none ∨ (c.own q ∧ isPm O[i]? = true)) ∧ ∀ j, j ≠ i → q ∉ fps j) (nd : fp.Nodup) : Rel K c O F H σ (fun j => if j = i then fp else fps j) (ds.set i (some d)) := by
  refine ⟨r.sub, r.base, r.keep, r.live, r.new, fun j e hj => ?_, fun j q hq => ?_, fun j => ?_, fun j k hjk q hq hq' => ?_, r.par, by rw [List.length_set]; exact r.len⟩
  · by_cases z : j = i
    · subst z
      by_cases hl : j < ds.length
      · rw [List.getElem?_set_self hl] at hj
        cases hj
        simp only [if_pos]
        exact ⟨v, hv, ow⟩
      · rw [List.getElem?_eq_none (by rw [List.length_set]; omega)] at hj; cases hj
    · rw [List.getElem?_set_ne (Ne.symm z)] at hj
      simp only [if_neg z]
      exact r.slots j e hj
  · by_cases z : j = i
    · simp only [if_pos z] at hq
      obtain ⟨a, b, cc, _⟩ := hf q hq
      exact ⟨a, b, by rw [z]; exact cc⟩
    · simp only [if_neg z] at hq
      exact r.off j q hq
  · by_cases z : j = i
    · simp only [if_pos z]; exact nd
    · simp only [if_neg z]; exact r.nd j
  · by_cases z : j = i
    · by_cases z' : k = i
      · exact hjk (z.trans z'.symm)
      · simp only [if_pos z] at hq
        simp only [if_neg z'] at hq'
        exact (hf q hq).2.2.2 k z' hq'
    · simp only [if_neg z] at hq
      by_cases z' : k = i
      · simp only [if_pos z'] at hq'
        exact (hf q hq').2.2.2 j z hq
      · simp only [if_neg z'] at hq'
        exact r.dj j k hjk q hq hq'
theorem Rel.updP (r : Rel K c O F H σ fps ds) {p : Addr} (hF : F p = none) (h0 : c.H0 p = none ∨ c.own p) (hq : ∀ i, p ∉ fps i) (o : HO) : Rel K c O F (upd H p o) σ fps ds := by
  refine ⟨fun b u e => ?_, r.base, fun b u e n => ?_, fun b e => ?_, r.new, fun i d e => ?_, fun i q hqi => ?_, r.nd, r.dj, r.par, r.len⟩
  · rw [upd_ne (ne_of_none e hF)]; exact r.sub b u e
  · have hb : b ≠ p := fun z => by
      subst z
      rcases h0 with h0 | h0
      · rw [h0] at e; cases e
      · exact n h0
    rw [upd_ne hb]; exact r.keep b u e n
  · by_cases hb : b = p
    · subst hb; rw [upd_same] at e; cases e
    · rw [upd_ne hb] at e; exact r.live b e
  · obtain ⟨v, hv, ho⟩ := r.slots i d e
    exact ⟨v, hv, ow_mono (Same.refl _) ho fun q hq' => upd_ne fun z => by subst z; exact hq i hq'⟩
  · obtain ⟨a, b, cc⟩ := r.off i q hqi
    have hb : q ≠ p := fun z => by subst z; exact hq i hqi
    rw [upd_ne hb]; exact ⟨a, b, cc⟩
end
end Z
set_option Elab.async false
set_option linter.all false
set_option maxRecDepth 100000
namespace Z
open PySem L2
/-! ### places within a thing of one's own -/
inductive Sel where
  | ix (n : Nat)
  | fd (f : Str)
deriving DecidableEq
/-- a field of an object -/
def fldD (f : Str) : List (D × D) → Option D
  | [] => none
  | (.str g, d) :: r => if f = g then some d else fldD f r
  | _ :: r => fldD f r
def putD (f : Str) (x : D) : List (D × D) → List (D × D)
  | [] => []
  | (.str g, d) :: r => if f = g then (.str g, x) :: r else (.str g, d) :: putD f x r
  | e :: r => e :: putD f x r
def fkOf : Kd → Str → Kd
  | .of f k r, g => if g = f then k else fkOf r g
  | _, _ => .sh
def isOb : Kd → Bool
  | .oe _ => true
  | .of _ _ _ => true
  | _ => false
/-- one step -/
def getS : Sel → D → Option D
  | .ix n, .list ds => ds[n]?
  | .ix n, .tuple ds => ds[n]?
  | .fd f, .dict ds => fldD f ds
  | _, _ => none
def setS : Sel → D → D → Option D
  | .ix n, .list ds, x => some (.list (ds.set n x))
  | .ix n, .tuple ds, x => some (.tuple (ds.set n x))
  | .fd f, .dict ds, x => some (.dict (putD f x ds))
  | _, _, _ => none
def getP : List Sel → D → Option D
  | [], d => some d
  | s :: π, d => match getS s d with
    | some d' => getP π d'
    | none => none
def setP : List Sel → D → D → Option D
  | [], _, x => some x
  | s :: π, d, x => match getS s d with
    | some d' => match setP π d' x with
      | some y => setS s d y
      | none => none
    | none => none
def stepK : Sel → Kd → Option Kd
  | .ix _, .ls k => some k
  | .ix 0, .tc k _ => some k
  | .ix (n + 1), .tc _ r => stepK (.ix n) r
  | s, .op k => stepK s k
  | .fd f, .oe cs => some (fkOf (.oe cs) f)
  | .fd f, .of g k r => some (fkOf (.of g k r) f)
  | _, _ => none
def kdP : List Sel → Kd → Option Kd
  | [], k => some k
  | s :: π, k => match stepK s k with
    | some k' => kdP π k'
    | none => none
def unpm : Kd → Kd
  | .pm k => k
  | k => k
theorem ow_unpm {K : Fg} {F H : Hp} {k : Kd} {v : V} {d : D} {fp : List Addr} : Ow K F H (unpm k) v d fp = Ow K F H k v d fp := by
  cases k <;> rfl
def VS (H : Hp) : V → Sel → V → Prop
  | v, .ix n, w => ∃ p xs, v = .ref p ∧ (H p = some (.lst xs) ∨ H p = some (.tup xs)) ∧ xs[n]? = some w
  | v, .fd f, w => ∃ p C dx fs, v = .ref p ∧ H p = some (.ins C dx fs) ∧ fs.lookup f = some w
def VP (H : Hp) : V → List Sel → V → Prop
  | v, [], w => v = w
  | v, s :: π, w => ∃ u, VS H v s u ∧ VP H u π w
theorem All3.split {α β γ : Type} {P : α → β → γ → Prop} : ∀ {xs ys zs} {n : Nat} {y : β}, All3 P xs ys zs → ys[n]? = some y →
    ∃ xa x xb ya yb za z zb, xs = xa ++ x :: xb ∧ ys = ya ++ y :: yb ∧ zs = za ++ z :: zb ∧ xa.length = n ∧ ya.length = n ∧ All3 P xa ya za ∧ P x y z ∧ All3 P xb yb zb
  | _, _, _, _, _, .nil, e => by simp at e
  | _, _, _, 0, y, .cons (a := a) (as := as) (b := b) (bs := bs) (c := c) (cs := cs) h t, e => by
    simp at e
    subst e
    exact ⟨[], a, as, [], bs, [], c, cs, rfl, rfl, rfl, rfl, rfl, .nil, h, t⟩
  | _, _, _, n + 1, y, .cons (a := a) (b := b) (c := c) h t, e => by
    obtain ⟨xa, x, xb, ya, yb, za, z, zb, rfl, rfl, rfl, l1, l2, h1, h2, h3⟩ := All3.split (n := n) (y := y) t (by simpa using e)
    exact ⟨a :: xa, x, xb, b :: ya, yb, c :: za, z, zb, rfl, rfl, rfl, by simp [l1], by simp [l2], .cons h h1, h2, h3⟩
theorem All3.append {α β γ : Type} {P : α → β → γ → Prop} : ∀ {xs ys zs xs' ys' zs'}, All3 P xs ys zs → All3 P xs' ys' zs' → All3 P (xs ++ xs') (ys ++ ys') (zs ++ zs')
  | _, _, _, _, _, _, .nil, h => h
  | _, _, _, _, _, _, .cons p t, h => .cons p (t.append h)
theorem FlO.split {R : Str → OwR} : ∀ {vs : List (Str × V)} {ds : List (D × D)} {fs : List (List Addr)} {f : Str} {d : D}, FlO R vs ds fs → fldD f ds = some d →
    ∃ va v vb da db fa fp fb, vs = va ++ (f, v) :: vb ∧ ds = da ++ (.str f, d) :: db ∧ fs = fa ++ fp :: fb ∧ FlO R va da fa ∧ R f v d fp ∧ FlO R vb db fb ∧ (∀ x ∈ va, x.1 ≠ f)
  | _, _, _, _, _, .nil, e => by simp [fldD] at e
  | _, _, _, f, d, .cons (f := g) (v := v) (d := d0) (fp := fp) (vs := vs) (ds := ds) (fs := fs) h t, e => by
    unfold fldD at e
    by_cases z : f = g
    · subst z
      rw [if_pos rfl] at e
      cases e
      exact ⟨[], v, vs, [], ds, [], fp, fs, rfl, rfl, rfl, .nil, h, t, fun x hx => absurd hx (by simp)⟩
    · rw [if_neg z] at e
      obtain ⟨va, v', vb, da, db, fa, fp', fb, rfl, rfl, rfl, h1, h2, h3, h4⟩ := FlO.split (f := f) (d := d) t e
      refine ⟨(g, v) :: va, v', vb, (.str g, d0) :: da, db, fp :: fa, fp', fb, rfl, rfl, rfl, .cons h h1, h2, h3, fun x hx => ?_⟩
      rcases List.mem_cons.mp hx with rfl | hx
      · exact fun y => z y.symm
      · exact h4 x hx
theorem FlO.append {R : Str → OwR} : ∀ {vs : List (Str × V)} {ds : List (D × D)} {fs : List (List Addr)} {vs' ds' fs'}, FlO R vs ds fs → FlO R vs' ds' fs' → FlO R (vs ++ vs') (ds ++ ds') (fs ++ fs')
  | _, _, _, _, _, _, .nil, h => h
  | _, _, _, _, _, _, .cons p t, h => .cons p (t.append h)
theorem lookup_split {va vb : List (Str × V)} {f : Str} {v : V} (h : ∀ x ∈ va, x.1 ≠ f) : (va ++ (f, v) :: vb).lookup f = some v := by
  induction va with
  | nil => simp
  | cons a va ih =>
    obtain ⟨g, w⟩ := a
    have hg : g ≠ f := h (g, w) (by simp)
    rw [List.cons_append, List.lookup_cons]
    have : (f == g) = false := by simpa using fun z => hg z.symm
    rw [this]
    exact ih fun x hx => h x (by simp [hx])
theorem putD_split {R : Str → OwR} {va : List (Str × V)} {da db : List (D × D)} {fa : List (List Addr)} {f : Str} {d x : D} (h : FlO R va da fa) (hn : ∀ y ∈ va, y.1 ≠ f) : putD f x (da ++ (.str f, d) :: db) = da ++ (.str f, x) :: db := by
  induction h with
  | nil => simp [putD]
  | cons h t ih =>
    rename_i g v d0 fp vs ds fs
    have hg : g ≠ f := hn (g, v) (by simp)
    rw [List.cons_append]
    show (if f = g then _ else _) = _
    rw [if_neg fun z => hg z.symm]
    show (PyData.str g, d0) :: putD f x (ds ++ (PyData.str f, d) :: db) = _
    rw [ih fun y hy => hn y (by simp [hy])]
    rfl
theorem ob_of {K : Fg} {F H : Hp} : ∀ {k : Kd}, isOb k = true → (∀ f, (Ow2 K F H k).f f = (Ow2 K F H (fkOf k f)).a) ∧ (Ow2 K F H k).a = ObO H (Ow2 K F H k).f (Ow2 K F H k).c := by
  have key : ∀ k : Kd, ∀ f, (Ow2 K F H k).f f = (Ow2 K F H (fkOf k f)).a := fun k => by
    induction k with
    | of g k r _ ih =>
      intro f
      show (if f = g then (Ow2 K F H k).a else (Ow2 K F H r).f f) = _
      unfold fkOf
      by_cases z : f = g
      · rw [if_pos z, if_pos z]
      · rw [if_neg z, if_neg z]; exact ih f
    | _ => intro f; rfl
  intro k h
  refine ⟨key k, ?_⟩
  cases k with
  | oe cs => rfl
  | of g k r => rfl
  | _ => cases h
/-- one part of a footprint is exchanged -/
theorem nd_swap {R A fn B fp2 : List Addr} (nd : (R ++ (A ++ (fn ++ B))).Nodup) (h2 : fp2.Nodup) (dj : ∀ q ∈ fp2, q ∈ R ++ (A ++ (fn ++ B)) → q ∈ fn) :
    (R ++ (A ++ (fp2 ++ B))).Nodup ∧ ∀ q ∈ R ++ (A ++ (fp2 ++ B)), q ∈ fp2 ∨ (q ∈ R ++ (A ++ (fn ++ B)) ∧ q ∉ fn) := by
  simp only [List.nodup_append, List.mem_append] at nd ⊢
  obtain ⟨nR, ⟨nA, ⟨nn, nB, dnB⟩, dA⟩, dR⟩ := nd
  simp only [List.mem_append] at dj
  refine ⟨⟨nR, ⟨nA, ⟨h2, nB, fun a ha b hb e => ?_⟩, fun a ha b hb e => ?_⟩, fun a ha b hb e => ?_⟩, fun q hq => ?_⟩
  · subst e; exact dnB a (dj a ha (.inr (.inr (.inr hb)))) a hb rfl
  · subst e
    rcases hb with hb | hb
    · exact dA a ha a (.inl (dj a hb (.inr (.inl ha)))) rfl
    · exact dA a ha a (.inr hb) rfl
  · subst e
    rcases hb with hb | hb | hb
    · exact dR a ha a (.inl hb) rfl
    · exact dR a ha a (.inr (.inl (dj a hb (.inl ha)))) rfl
    · exact dR a ha a (.inr (.inr hb)) rfl
  · rcases hq with hq | hq | hq | hq
    · exact .inr ⟨.inl hq, fun z => dR q hq q (.inr (.inl z)) rfl⟩
    · exact .inr ⟨.inr (.inl hq), fun z => dA q hq q (.inl z) rfl⟩
    · exact .inl hq
    · exact .inr ⟨.inr (.inr (.inr hq)), fun z => dnB q z q hq rfl⟩
/-- how a thing is put together again when a part of it was changed -/
def Wand (K : Fg) (F H : Hp) (k k' : Kd) (v v' : V) (fp fp' : List Addr) (put : D → Option D) : Prop := ∀ F2 H2 d2 fp2, Same F F2 → (∀ q ∈ fp, q ∉ fp' → H2 q = H q) → Ow K F2 H2 k' v' d2 fp2 → (∀ q ∈ fp2, q ∈ fp → q ∈ fp') → fp2.Nodup →
  ∃ fp3 d3, put d2 = some d3 ∧ Ow K F2 H2 k v d3 fp3 ∧ fp3.Nodup ∧ ∀ q ∈ fp3, q ∈ fp2 ∨ (q ∈ fp ∧ q ∉ fp')
theorem ob_step {K : Fg} {F H : Hp} {f : Str} {k k' : Kd} {v : V} {d d' : D} {fp : List Addr} (hob : isOb k = true) (ow : Ow K F H k v d fp) (hk : k' = fkOf k f) (hg : getS (.fd f) d = some d') (nd : fp.Nodup) :
    ∃ v' fp', VS H v (.fd f) v' ∧ (∀ H2, (∀ q ∈ fp, H2 q = H q) → VS H2 v (.fd f) v') ∧ Ow K F H k' v' d' fp' ∧ (∀ q ∈ fp', q ∈ fp) ∧ fp'.Nodup ∧ Wand K F H k k' v v' fp fp' (setS (.fd f) d) := by
  subst hk
  have oo := ob_of (K := K) (F := F) (H := H) hob
  have ow' : ObO H (Ow2 K F H k).f (Ow2 K F H k).c v d fp := by rw [← oo.2]; exact ow
  obtain ⟨p, C, dx, cls, vs, ds, gs, rfl, rfl, hp, hdx, hcls, rfl, al⟩ := ow'
  have hn : fldD f ds = some d' := hg
  obtain ⟨va, u, vb, da, db, fa, fn, fb, rfl, rfl, rfl, h1, h2, h3, h4⟩ := al.split hn
  rw [oo.1 f] at h2
  have efp : ∀ f : List Addr, p :: dx :: (fa ++ f :: fb).flatten = [p, dx] ++ (fa.flatten ++ (f ++ fb.flatten)) := fun f => by simp
  have inn : ∀ q, q ∈ fn → q ∈ p :: dx :: (fa ++ fn :: fb).flatten := fun q hq => by simp [hq]
  have nd' := nd
  rw [efp] at nd'
  have ndn : fn.Nodup := by
    simp only [List.nodup_append] at nd'
    exact nd'.2.1.2.1.1
  refine ⟨u, fn, ⟨p, C, dx, _, rfl, hp, lookup_split h4⟩, fun H2 e => ⟨p, C, dx, _, rfl, by rw [e p (by simp)]; exact hp, lookup_split h4⟩, h2, inn, ndn, fun F2 H2 d2 fp2 sF e ow2 dj2 nd2 => ?_⟩
  obtain ⟨s1, s2⟩ := nd_swap nd' nd2 (fun q hq hq' => dj2 q hq (by rw [efp]; exact hq'))
  have dis : ∀ q, q ∈ [p, dx] ∨ q ∈ fa.flatten ∨ q ∈ fb.flatten → q ∉ fn := fun q hq z => by
    simp only [List.nodup_append, List.mem_append] at nd'
    obtain ⟨_, ⟨_, ⟨_, _, d3⟩, d2⟩, d1⟩ := nd'
    rcases hq with hq | hq | hq
    · exact d1 q hq q (.inr (.inl z)) rfl
    · exact d2 q hq q (.inl z) rfl
    · exact d3 q z q hq rfl
  have kp : ∀ q, q ∈ [p, dx] ∨ q ∈ fa.flatten ∨ q ∈ fb.flatten → H2 q = H q := fun q hq => e q (by
        rw [efp]
        simp only [List.mem_append]
        rcases hq with hq | hq | hq
        · exact .inl hq
        · exact .inr (.inl hq)
        · exact .inr (.inr (.inr hq))) (dis q hq)
  have oo2 := ob_of (K := K) (F := F2) (H := H2) hob
  have m2 := ow2_mono (K := K) (F := F) (F' := F2) (H := H) (H' := H2) sF k
  have al2 : FlO (Ow2 K F2 H2 k).f (va ++ (f, u) :: vb) (da ++ (.str f, d2) :: db) (fa ++ fp2 :: fb) := (h1.imp fun g w d fp hm hr => m2.2.1 g w d fp hr fun q hq => kp q (.inr (.inl (List.mem_flatten.mpr ⟨fp, hm, hq⟩)))).append
    (.cons (by rw [oo2.1 f]; exact ow2) (h3.imp fun g w d fp hm hr => m2.2.1 g w d fp hr fun q hq => kp q (.inr (.inr (List.mem_flatten.mpr ⟨fp, hm, hq⟩)))))
  have ow3' : Ow K F2 H2 k (.ref p) (.dict ((.none, .str cls) :: (da ++ (.str f, d2) :: db))) (p :: dx :: (fa ++ fp2 :: fb).flatten) := by
    show (Ow2 K F2 H2 k).a _ _ _
    rw [oo2.2]
    exact ⟨p, C, dx, cls, _, _, _, rfl, rfl, by rw [kp p (.inl (by simp))]; exact hp, by rw [kp dx (.inl (by simp))]; exact hdx, by rw [← m2.2.2.1]; exact hcls, rfl, al2⟩
  refine ⟨_, _, ?_, ow3', by rw [efp]; exact s1, fun q hq => ?_⟩
  · show some (PyData.dict ((PyData.none, PyData.str cls) :: putD f d2 (da ++ (PyData.str f, d') :: db))) = _
    rw [putD_split h1 h4]
  · rw [efp] at hq ⊢
    exact s2 q hq
theorem tup_step {K : Fg} {F H : Hp} : ∀ {n : Nat} {k k1 : Kd} {xs : List V} {ds : List D} {fs : List (List Addr)} {d1 : D}, (Ow2 K F H k).t xs ds fs → stepK (.ix n) k = some k1 → ds[n]? = some d1 →
    ∃ v1 fn fa fb, xs[n]? = some v1 ∧ Ow K F H k1 v1 d1 fn ∧ fs = fa ++ fn :: fb ∧
      ∀ F2 H2 d2 fp2, Same F F2 → (∀ f ∈ fa, ∀ q ∈ f, H2 q = H q) → (∀ f ∈ fb, ∀ q ∈ f, H2 q = H q) → Ow K F2 H2 k1 v1 d2 fp2 → (Ow2 K F2 H2 k).t xs (ds.set n d2) (fa ++ fp2 :: fb)
  | n, .tc k r, k1, xs, ds, fs, d1, h, hk, hd => by
    obtain ⟨x, d, f, xr, dr, fr, rfl, rfl, rfl, h1, h2⟩ := h
    cases n with
    | zero =>
      cases hk
      cases hd
      exact ⟨x, f, [], fr, rfl, h1, rfl, fun F2 H2 d2 fp2 sF _ hb o => ⟨x, d2, fp2, xr, dr, fr, rfl, rfl, rfl, o, (ow2_mono sF r).2.2.2 xr dr fr h2 hb⟩⟩
    | succ n =>
      obtain ⟨v1, fn, fa, fb, e1, o1, rfl, w⟩ := tup_step (n := n) (d1 := d1) h2 (show stepK (.ix n) r = some k1 from hk) (by simpa using hd)
      refine ⟨v1, fn, f :: fa, fb, by simpa using e1, o1, rfl, fun F2 H2 d2 fp2 sF ha hb o => ?_⟩
      exact ⟨x, d, f, xr, _, _, rfl, rfl, rfl, (ow2_mono sF k).1 x d f h1 (ha f (by simp)), w F2 H2 d2 fp2 sF (fun f' hf => ha f' (by simp [hf])) hb o⟩
  | n, .sh, _, _, _, _, _, h, _, _ => h.elim
  | n, .ls _, _, _, _, _, _, h, _, _ => h.elim
  | n, .pm _, _, _, _, _, _, h, _, _ => h.elim
  | n, .dc, _, _, _, _, _, h, _, _ => h.elim
  | n, .oe _, _, _, _, _, _, h, _, _ => h.elim
  | n, .of _ _ _, _, _, _, _, _, h, _, _ => h.elim
  | n, .op _, _, _, _, _, _, h, _, _ => h.elim
  | n, .xr _, _, _, _, _, _, h, _, _ => h.elim
  | n, .te, _, _, _, _, _, h, _, hd => by obtain ⟨rfl, rfl, rfl⟩ := h; simp at hd
theorem ow_step {K : Fg} {F H : Hp} {s : Sel} : ∀ {k k' : Kd} {v : V} {d d' : D} {fp : List Addr}, Ow K F H k v d fp → stepK s k = some k' → getS s d = some d' → fp.Nodup →
    ∃ v' fp', VS H v s v' ∧ (∀ H2, (∀ q ∈ fp, H2 q = H q) → VS H2 v s v') ∧ Ow K F H k' v' d' fp' ∧ (∀ q ∈ fp', q ∈ fp) ∧ fp'.Nodup ∧ Wand K F H k k' v v' fp fp' (setS s d)
  | .ls k1, k', v, d, d', fp, ow, hk, hg, nd => by
    cases s with
    | fd f => cases hk
    | ix n =>
      cases hk
      obtain ⟨p, xs, ds, fs, rfl, rfl, hp, rfl, al⟩ := ow
      obtain ⟨xa, u, xb, da, db, fa, fn, fb, rfl, rfl, rfl, l1, l2, h1, h2, h3⟩ := al.split (show ds[n]? = some d' from hg)
      have hx : (xa ++ u :: xb)[n]? = some u := by rw [List.getElem?_append_right (by omega), l1]; simp
      have efp : ∀ f : List Addr, p :: (fa ++ f :: fb).flatten = [p] ++ (fa.flatten ++ (f ++ fb.flatten)) := fun f => by simp
      have inn : ∀ q, q ∈ fn → q ∈ p :: (fa ++ fn :: fb).flatten := fun q hq => by simp [hq]
      have nd' := nd
      rw [efp] at nd'
      have ndn : fn.Nodup := by
        simp only [List.nodup_append] at nd'
        exact nd'.2.1.2.1.1
      refine ⟨u, fn, ⟨p, _, rfl, .inl hp, hx⟩, fun H2 e => ⟨p, _, rfl, .inl (by rw [e p (by simp)]; exact hp), hx⟩, h2, inn, ndn, fun F2 H2 d2 fp2 sF e ow2 dj2 nd2 => ?_⟩
      obtain ⟨s1, s2⟩ := nd_swap nd' nd2 (fun q hq hq' => dj2 q hq (by rw [efp]; exact hq'))
      have dis : ∀ q, q ∈ [p] ∨ q ∈ fa.flatten ∨ q ∈ fb.flatten → q ∉ fn := fun q hq z => by
        simp only [List.nodup_append, List.mem_append] at nd'
        obtain ⟨_, ⟨_, ⟨_, _, d3⟩, d2⟩, d1⟩ := nd'
        rcases hq with hq | hq | hq
        · exact d1 q hq q (.inr (.inl z)) rfl
        · exact d2 q hq q (.inl z) rfl
        · exact d3 q z q hq rfl
      have kp : ∀ q, q ∈ [p] ∨ q ∈ fa.flatten ∨ q ∈ fb.flatten → H2 q = H q := fun q hq => e q (by
        rw [efp]
        simp only [List.mem_append]
        rcases hq with hq | hq | hq
        · exact .inl hq
        · exact .inr (.inl hq)
        · exact .inr (.inr (.inr hq))) (dis q hq)
      refine ⟨p :: (fa ++ fp2 :: fb).flatten, .list (da ++ d2 :: db), ?_, ⟨p, _, _, _, rfl, rfl, by rw [kp p (.inl (by simp))]; exact hp, rfl, (h1.imp fun a b c hc o => ow_mono sF o fun q hq => kp q (.inr (.inl (List.mem_flatten.mpr ⟨c, hc, hq⟩)))).append (.cons ow2 (h3.imp fun a b c hc o => ow_mono sF o fun q hq => kp q (.inr (.inr (List.mem_flatten.mpr ⟨c, hc, hq⟩)))))⟩, by rw [efp]; exact s1, fun q hq => ?_⟩
      · show some (PyData.list ((da ++ d' :: db).set n d2)) = _
        rw [List.set_append_right _ _ (by omega), l2]
        simp
      · rw [efp] at hq ⊢
        exact s2 q hq
  | .op k1, k', v, d, d', fp, ow, hk, hg, nd => by
    rcases ow with ⟨_, rfl, _⟩ | ow
    · cases s <;> cases hg
    · have hk' : stepK s k1 = some k' := by
        cases s with
        | ix n => cases n <;> exact hk
        | fd f => exact hk
      obtain ⟨v', fp', a1, a2, a3, a4, a5, w⟩ := ow_step (k := k1) ow hk' hg nd
      refine ⟨v', fp', a1, a2, a3, a4, a5, fun F2 H2 d2 fp2 sF e o dj n2 => ?_⟩
      obtain ⟨fp3, d3, b1, b2, b3, b4⟩ := w F2 H2 d2 fp2 sF e o dj n2
      exact ⟨fp3, d3, b1, .inr b2, b3, b4⟩
  | .tc k r, k', v, d, d', fp, ow, hk, hg, nd => by
    cases s with
    | fd f => cases hk
    | ix n =>
      obtain ⟨p, xs, ds, fs, rfl, rfl, hp, rfl, al⟩ := ow
      obtain ⟨u, fn, fa, fb, hx, h2, rfl, w⟩ := tup_step (k := .tc k r) (d1 := d') al hk (show ds[n]? = some d' from hg)
      have efp : ∀ f : List Addr, p :: (fa ++ f :: fb).flatten = [p] ++ (fa.flatten ++ (f ++ fb.flatten)) := fun f => by simp
      have inn : ∀ q, q ∈ fn → q ∈ p :: (fa ++ fn :: fb).flatten := fun q hq => by simp [hq]
      have nd' := nd
      rw [efp] at nd'
      have ndn : fn.Nodup := by
        simp only [List.nodup_append] at nd'
        exact nd'.2.1.2.1.1
      refine ⟨u, fn, ⟨p, _, rfl, .inr hp, hx⟩, fun H2 e => ⟨p, _, rfl, .inr (by rw [e p (by simp)]; exact hp), hx⟩, h2, inn, ndn, fun F2 H2 d2 fp2 sF e ow2 dj2 nd2 => ?_⟩
      obtain ⟨s1, s2⟩ := nd_swap nd' nd2 (fun q hq hq' => dj2 q hq (by rw [efp]; exact hq'))
      have dis : ∀ q, q ∈ [p] ∨ q ∈ fa.flatten ∨ q ∈ fb.flatten → q ∉ fn := fun q hq z => by
        simp only [List.nodup_append, List.mem_append] at nd'
        obtain ⟨_, ⟨_, ⟨_, _, d3⟩, d2⟩, d1⟩ := nd'
        rcases hq with hq | hq | hq
        · exact d1 q hq q (.inr (.inl z)) rfl
        · exact d2 q hq q (.inl z) rfl
        · exact d3 q z q hq rfl
      have kp : ∀ q, q ∈ [p] ∨ q ∈ fa.flatten ∨ q ∈ fb.flatten → H2 q = H q := fun q hq => e q (by
        rw [efp]
        simp only [List.mem_append]
        rcases hq with hq | hq | hq
        · exact .inl hq
        · exact .inr (.inl hq)
        · exact .inr (.inr (.inr hq))) (dis q hq)
      refine ⟨p :: (fa ++ fp2 :: fb).flatten, .tuple (ds.set n d2), rfl, ⟨p, xs, _, _, rfl, rfl, by rw [kp p (.inl (by simp))]; exact hp, rfl, w F2 H2 d2 fp2 sF (fun f hf q hq => kp q (.inr (.inl (List.mem_flatten.mpr ⟨f, hf, hq⟩)))) (fun f hf q hq => kp q (.inr (.inr (List.mem_flatten.mpr ⟨f, hf, hq⟩)))) ow2⟩, by rw [efp]; exact s1, fun q hq => ?_⟩
      rw [efp] at hq ⊢
      exact s2 q hq
  | .sh, _, _, _, _, _, _, hk, _, _ => by cases s with | ix n => cases n <;> cases hk | fd f => cases hk
  | .pm _, _, _, _, _, _, _, hk, _, _ => by cases s with | ix n => cases n <;> cases hk | fd f => cases hk
  | .dc, _, _, _, _, _, _, hk, _, _ => by cases s with | ix n => cases n <;> cases hk | fd f => cases hk
  | .te, _, _, _, _, _, _, hk, _, _ => by cases s with | ix n => cases n <;> cases hk | fd f => cases hk
  | .xr _, _, _, _, _, _, _, hk, _, _ => by cases s with | ix n => cases n <;> cases hk | fd f => cases hk
  | .oe cs, k', v, d, d', fp, ow, hk, hg, nd => by
    cases s with
    | ix n => cases n <;> cases hk
    | fd f => exact ob_step rfl ow (Option.some.inj hk).symm hg nd
  | .of g k r, k', v, d, d', fp, ow, hk, hg, nd => by
    cases s with
    | ix n => cases n <;> cases hk
    | fd f => exact ob_step rfl ow (Option.some.inj hk).symm hg nd
/-- a thing at a place: it, and how the whole is put together again when it was changed -/
theorem ow_path {K : Fg} {F H : Hp} : ∀ {π : List Sel} {k k' : Kd} {v : V} {d d' : D} {fp : List Addr}, Ow K F H k v d fp → kdP π k = some k' → getP π d = some d' → fp.Nodup →
    ∃ v' fp', VP H v π v' ∧ (∀ H2, (∀ q ∈ fp, H2 q = H q) → VP H2 v π v') ∧ Ow K F H k' v' d' fp' ∧ (∀ q ∈ fp', q ∈ fp) ∧ fp'.Nodup ∧ Wand K F H k k' v v' fp fp' (setP π d) := by
  intro π
  induction π with
  | nil =>
    intro k k' v d d' fp ow hk hg nd
    cases hk
    cases hg
    exact ⟨v, fp, rfl, fun _ _ => rfl, ow, fun _ h => h, nd, fun F2 H2 d2 fp2 _ _ ow2 _ nd2 => ⟨fp2, d2, rfl, ow2, nd2, fun q hq => .inl hq⟩⟩
  | cons s π ih =>
    intro k k' v d d' fp ow hk hg nd
    unfold kdP at hk
    unfold getP at hg
    cases hs : stepK s k with
    | none => rw [hs] at hk; cases hk
    | some k1 =>
      cases hd : getS s d with
      | none => rw [hd] at hg; cases hg
      | some d1 =>
        rw [hs] at hk
        rw [hd] at hg
        obtain ⟨v1, fp1, a1, a2, a3, a4, a5, w1⟩ := ow_step ow hs hd nd
        obtain ⟨v2, fp2', b1, b2, b3, b4, b5, w2⟩ := ih (d' := d') a3 hk hg a5
        refine ⟨v2, fp2', ⟨v1, a1, b1⟩, fun H2 e => ⟨v1, a2 H2 e, b2 H2 fun q hq => e q (a4 q hq)⟩, b3, fun q hq => a4 q (b4 q hq), b5, fun F2 H2 d2 fp2 sF e ow2 dj2 nd2 => ?_⟩
        obtain ⟨fp3, d3, e3, o3, n3, s3⟩ := w2 F2 H2 d2 fp2 sF (fun q hq hn => e q (a4 q hq) hn) ow2 (fun q hq hq' => dj2 q hq (a4 q hq')) nd2
        obtain ⟨fp4, d4, e4, o4, n4, s4⟩ := w1 F2 H2 d3 fp3 sF (fun q hq hn => e q hq fun z => hn (b4 q z)) o3 (fun q hq hq' => by
          rcases s3 q hq with h | h
          · exact b4 q (dj2 q h hq')
          · exact h.1) n3
        refine ⟨fp4, d4, ?_, o4, n4, fun q hq => ?_⟩
        · unfold setP
          rw [hd]
          dsimp only
          rw [e3]
          exact e4
        · rcases s4 q hq with h | ⟨h1, h2⟩
          · rcases s3 q h with h | ⟨h3, h4⟩
            · exact .inl h
            · exact .inr ⟨a4 q h3, h4⟩
          · exact .inr ⟨h1, fun z => h2 (b4 q z)⟩
theorem VS.fun {H : Hp} {s : Sel} {v u w : V} (h : VS H v s u) (g : VS H v s w) : u = w := by
  cases s with
  | ix n =>
    obtain ⟨p, xs, rfl, e2, e3⟩ := h
    obtain ⟨p', xs', f1, f2, f3⟩ := g
    cases f1
    have : xs = xs' := by
      rcases e2 with e2 | e2 <;> rcases f2 with f2 | f2 <;> (rw [e2] at f2; cases f2; try rfl)
    subst this
    rw [e3] at f3
    exact Option.some.inj f3
  | fd f =>
    obtain ⟨p, C, dx, fs, rfl, e2, e3⟩ := h
    obtain ⟨p', C', dx', fs', f1, f2, f3⟩ := g
    cases f1
    rw [e2] at f2
    cases f2
    rw [e3] at f3
    exact Option.some.inj f3
theorem VP.fun {H : Hp} : ∀ {π : List Sel} {v u w : V}, VP H v π u → VP H v π w → u = w
  | [], _, _, _, h, g => h.symm.trans g
  | s :: π, _, _, _, ⟨a, h1, h⟩, ⟨b, g1, g⟩ => by
    have := VS.fun h1 g1
    subst this
    exact VP.fun h g
theorem kdP_append : ∀ {π ρ : List Sel} {k k' : Kd}, kdP π k = some k' → kdP (π ++ ρ) k = kdP ρ k'
  | [], _, _, _, h => by cases h; rfl
  | s :: π, ρ, k, k', h => by
    unfold kdP at h
    show (match stepK s k with | some k' => kdP (π ++ ρ) k' | none => none) = _
    cases z : stepK s k with
    | none => rw [z] at h; cases h
    | some k1 => rw [z] at h; exact kdP_append (π := π) h
theorem getP_append : ∀ {π ρ : List Sel} {d d' : D}, getP π d = some d' → getP (π ++ ρ) d = getP ρ d'
  | [], _, _, _, h => by cases h; rfl
  | s :: π, ρ, d, d', h => by
    unfold getP at h
    show (match getS s d with | some d' => getP (π ++ ρ) d' | none => none) = _
    cases z : getS s d with
    | none => rw [z] at h; cases h
    | some x => rw [z] at h; exact getP_append h
theorem VP.append {H : Hp} : ∀ {π ρ : List Sel} {v u w : V}, VP H v π u → VP H u ρ w → VP H v (π ++ ρ) w
  | [], _, _, _, _, h, g => by cases h; exact g
  | s :: π, _, _, _, _, ⟨a, h1, h⟩, g => ⟨a, h1, VP.append h g⟩
end Z
set_option Elab.async false
set_option linter.all false
set_option maxRecDepth 100000
namespace Z
open PySem L2
def asd (fps : Nat → List Addr) (i : Nat) : Nat → List Addr := fun j => if j = i then [] else fps j
/-- what is kept as it is while the rest goes on -/
structure Pt (K : Fg) (c : Ctx) (F H : Hp) (k : Kd) (w : V) (d : D) (fp : List Addr) : Prop where
  ow : Ow K F H k w d fp
  nd : fp.Nodup
  pr : ∀ q ∈ fp, F q = none ∧ H q ≠ none ∧ c.F0 q = none ∧ c.H0 q = H q ∧ ¬ c.own q
section
variable {K : Fg} {c : Ctx} {Ob O : List Kd} {F H F1 H1 F2 H2 F3 H3 : Hp} {σ : St} {fps fps1 fps2 fps3 : Nat → List Addr} {ds s1 s2 s3 : DS} {k k' k1 : Kd} {w v : V} {d d' : D} {fp : List Addr} {i : Nat} {te ti tp : TE} {m me : M D}
theorem Pt.stay (p : Pt K c F H k w d fp) (r : Rel K c O F2 H2 σ fps2 s2) (s : Same F F2) : Pt K c F2 H2 k w d fp ∧ (∀ q ∈ fp, H2 q = H q) ∧ ∀ q ∈ fp, ∀ j, q ∉ fps2 j := by
  have e : ∀ q ∈ fp, H2 q = H q := fun q hq => by
    obtain ⟨h1, h2, h3, h4, h5⟩ := p.pr q hq
    cases z : H q with
    | none => exact absurd z h2
    | some o => exact r.keep q o (by rw [h4]; exact z) h5
  refine ⟨⟨ow_mono s p.ow e, p.nd, fun q hq => ?_⟩, e, fun q hq j hj => ?_⟩
  · obtain ⟨h1, h2, h3, h4, h5⟩ := p.pr q hq
    refine ⟨?_, by rw [e q hq]; exact h2, h3, by rw [e q hq]; exact h4, h5⟩
    cases z : F2 q with
    | none => rfl
    | some o =>
      rcases r.new q o z with h | h
      · rw [h3] at h; cases h
      · rw [h4] at h; exact absurd h h2
  · obtain ⟨h1, h2, h3, h4, h5⟩ := p.pr q hq
    rcases (r.off j q hj).2.2 with h | ⟨h, _⟩
    · rw [h4] at h; exact h2 h
    · exact h5 h
theorem asd_sub {q : Addr} {j : Nat} (h : q ∈ asd fps i j) : j ≠ i ∧ q ∈ fps j := by
  unfold asd at h
  by_cases z : j = i
  · rw [if_pos z] at h; exact absurd h (by simp)
  · rw [if_neg z] at h; exact ⟨z, h⟩
/-- a slot's thing set aside -/
theorem Rel.pt (r : Rel K c O F H σ fps ds) (i : Nat) (hd : ds[i]? = some (some d)) : ∃ w, σ[i]? = some (some w) ∧ Rel K (c.from O F H (asd fps i)) O F H σ (asd fps i) (ds.set i none) ∧ Pt K (c.from O F H (asd fps i)) F H (unpm (O.getD i .sh)) w d (fps i) := by
  obtain ⟨w, hw, ow⟩ := r.slots i d hd
  have ra : Rel K c O F H σ (asd fps i) (ds.set i none) := r.aside i
  refine ⟨w, hw, ra.focus, ⟨by rw [ow_unpm]; exact ow, r.nd i, fun q hq => ?_⟩⟩
  obtain ⟨h1, h2, _⟩ := r.off i q hq
  have hn : ∀ j, q ∉ asd fps i j := fun j hj => by
    obtain ⟨z, hj⟩ := asd_sub hj
    exact r.dj j i z q hj hq
  exact ⟨h1, h2, h1, from_some fun ⟨j, hj, _⟩ => hn j hj, fun ⟨j, hj, _⟩ => hn j hj⟩
/-- .. and put back, changed -/
theorem Rel.putback (r1 : Rel K c O F1 H1 σ fps1 s1) (hw : σ[i]? = some (some w)) (r3 : Rel K (c.from O F1 H1 (asd fps1 i)) O F3 H3 σ fps3 s3) {p : Addr} {o : HO} {d4 : D} {fp4 : List Addr} (hp : p ∈ fps1 i)
    (ow : Ow K F3 (upd H3 p o) (unpm (O.getD i .sh)) w d4 fp4) (nd : fp4.Nodup) (hq : ∀ q ∈ fp4, q ∈ fps1 i ∨ (F3 q = none ∧ H3 q ≠ none ∧ c.H0 q = none ∧ ∀ j, q ∉ fps3 j)) :
    Rel K c O F3 (upd H3 p o) σ (fun j => if j = i then fp4 else fps3 j) (s3.set i (some d4)) := by
  have ra : Rel K c O F1 H1 σ (asd fps1 i) (s1.set i none) := r1.aside i
  have rc := ra.unfocus' r3
  have hn : ∀ q ∈ fps1 i, ∀ j, q ∉ asd fps1 i j := fun q hq j hj => by
    obtain ⟨z, hj⟩ := asd_sub hj
    exact r1.dj j i z q hj hq
  have out := fun q (hq : q ∈ fps1 i) => r3.out (r1.off i q hq).1 (r1.off i q hq).2.1 (hn q hq)
  have h0 : ∀ q ∈ fps1 i, c.H0 q = none ∨ (c.own q ∧ isPm O[i]? = true) := fun q hq => (r1.off i q hq).2.2
  have ru := rc.updP (p := p) (out p hp).2.1 ((h0 p hp).imp id (·.1)) (out p hp).2.2 o
  have ow' : Ow K F3 (upd H3 p o) (O.getD i .sh) w d4 fp4 := by rw [← ow_unpm]; exact ow
  refine ru.again hw ow' (fun q hq4 => ?_) nd
  rcases hq q hq4 with h | ⟨h1, h2, h3, h4⟩
  · refine ⟨(out q h).2.1, ?_, h0 q h, fun j _ => (out q h).2.2 j⟩
    by_cases z : q = p
    · rw [z, upd_same]; simp
    · rw [upd_ne z, (out q h).1]; exact (r1.off i q h).2.1
  · refine ⟨h1, ?_, .inl h3, fun j _ => h4 j⟩
    by_cases z : q = p
    · rw [z, upd_same]; simp
    · rw [upd_ne z]; exact h2
/-- a place of slot i's thing -/
structure DPl (K : Fg) (c : Ctx) (O : List Kd) (i : Nat) (k : Kd) (t : TE) (mp : D → M (List Sel)) (k' : Kd) : Prop where
  kd : ∀ {d : D} {ds ds' : DS} {π : List Sel}, mp d ds = .ok π ds' → kdP π k = some k'
  run : ∀ {F H : Hp} {σ : St} {fps : Nat → List Addr} {ds ds' : DS} {π : List Sel} {w : V} {d : D} {fp : List Addr}, Rel K c O F H σ fps ds → mp d ds = .ok π ds' → σ[i]? = some (some w) → Pt K c F H k w d fp → (getP π d).isSome = true →
    ∀ Q : VK, (∀ F' H' fps' v, Same F F' → Rel K c O F' H' σ fps' ds' → VP H' w π v → Q v H') → t σ H Q
def plR : D → M (List Sel) := fun _ s => .ok [] s
def plIx (mp : D → M (List Sel)) (me : M D) : D → M (List Sel) := fun d => bnd (mp d) fun π => bnd me fun z => opt (match z, getP π d with
  | .int j, some (.list xs) => (ixN xs.length j).map fun n => π ++ [.ix n]
  | _, _ => none)
theorem pl_root : DPl K c O i k (tVar i) plR k := ⟨fun e => by cases e; rfl, fun r e hw p _ Q q => by
  cases e
  exact ⟨_, hw, q _ _ _ _ (Same.refl _) r rfl⟩⟩
theorem ixN_lt {l : Nat} {j : Int} {n : Nat} (h : ixN l j = some n) : n < l := by
  unfold ixN at h
  split at h
  · split at h
    · cases h; omega
    · cases h
  · split at h
    · cases h; omega
    · cases h
theorem plIx_ok {mp : D → M (List Sel)} {d : D} {ds ds' : DS} {π : List Sel} (e : plIx mp me d ds = .ok π ds') : ∃ ρ s1 j xs n, mp d ds = .ok ρ s1 ∧ me s1 = .ok (.int j) ds' ∧ getP ρ d = some (.list xs) ∧ ixN xs.length j = some n ∧ π = ρ ++ [.ix n] := by
  obtain ⟨ρ, s1, e1, e⟩ := bnd_ok e
  obtain ⟨z, s2, e2, e⟩ := bnd_ok e
  obtain ⟨e, hs⟩ := opt_ok e
  subst hs
  cases z with
  | int j =>
    cases hx : getP ρ d with
    | none => rw [hx] at e; cases e
    | some x =>
      rw [hx] at e
      cases x with
      | list xs =>
        dsimp only at e
        cases hn : ixN xs.length j with
        | none => rw [hn] at e; cases e
        | some n => rw [hn] at e; cases e; exact ⟨ρ, s1, j, xs, n, e1, e2, hx, hn, rfl⟩
      | _ => cases e
  | _ => cases e
theorem pl_ix {mp : D → M (List Sel)} (h : DPl K c O i k tp mp (.ls k1)) (he : DE K c O te me) : DPl K c O i k (tOp (rIx K) tp te) (plIx mp me) k1 := ⟨fun {d ds ds' π} e => by
  obtain ⟨ρ, s1, j, xs, n, e1, e2, hx, hn, rfl⟩ := plIx_ok e
  rw [kdP_append (h.kd e1)]
  rfl, fun {F H σ fps ds ds' π w d fp} r e hw p hg Q q => by
  obtain ⟨ρ, s1, j, xs, n, e1, e2, hx, hn, rfl⟩ := plIx_ok e
  refine h.run r e1 hw p (by rw [hx]; rfl) _ fun F1 H1 fps1 v sF r1 vp => ?_
  obtain ⟨p1, a1, _⟩ := p.stay r1 sF
  refine he.run r1 e2 _ fun F2 H2 fps2 z sF2 r2 dp => ?_
  obtain ⟨p2, a2, _⟩ := p1.stay r2 sF2
  cases dp
  obtain ⟨v', fp', vp', _, ow', sub, _, _⟩ := ow_path p2.ow (h.kd e1) hx p2.nd
  obtain ⟨v1, fp1, vq, vq2, _, _, _, _⟩ := ow_path p1.ow (h.kd e1) hx p1.nd
  have ev : v = v' := by
    have := vq2 H2 a2
    rw [VP.fun vp vq]
    exact VP.fun this vp'
  subst ev
  obtain ⟨a, ys, es, fs, rfl, e3, ha, _, al⟩ := ow'
  cases e3
  have hl := al.len.1
  have hlt : n < xs.length := ixN_lt hn
  obtain ⟨u, hu⟩ : ∃ u, ys[n]? = some u := ⟨_, List.getElem?_eq_getElem (by omega)⟩
  refine .inl ⟨a, ys, j, u, rfl, rfl, SqL.of ha, ?_, q F2 H2 fps2 _ (sF.trans sF2) r2 (VP.append vp' ⟨_, ⟨a, ys, rfl, .inl ha, hu⟩, rfl⟩)⟩
  unfold atI
  rw [hl, hn]
  exact hu⟩
/-- x.. [e] = v -/
def sPutP (i : Nat) (mp : D → M (List Sel)) (me m : M D) : MS := fun s => match m s with
  | .ok v s1 => match s1[i]? with
    | some (some d) => match mp d (s1.set i none) with
      | .ok π s2 => match me s2 with
        | .ok z s3 => match z, getP π d with
          | .int j, some (.list xs) => match ixN xs.length j with
            | some n => match setP π d (.list (xs.set n v)) with
              | some d' => .nx (s3.set i (some d'))
              | none => .no
            | none => .no
          | _, _ => .no
        | .no => .no
      | .no => .no
    | _ => .no
  | .no => .no
theorem ls_sh {F H : Hp} {v : V} {d : D} {fp : List Addr} (h : Ow K F H (.ls .sh) v d fp) : ∃ p xs ds, v = .ref p ∧ d = .list ds ∧ H p = some (.lst xs) ∧ fp = [p] ∧ DpAll K F xs ds := ow_ls (k := .ls .sh) rfl h
theorem c_putP {mp : D → M (List Sel)} (i : Nat) (hm : DE K c O te m) (hp : ∀ c', DPl K c' O i (unpm (O.getD i .sh)) tp mp (.ls .sh)) (he : ∀ c', DE K c' O ti me) : DC K c Ob O (tAsg te (gSub tp ti rSetL)) (sPutP i mp me m) O := ⟨fun {F H σ fps ds} r E p => by
  unfold sPutP at p
  cases e : m ds with
  | no => rw [e] at p; exact p.elim
  | ok x s1 =>
    rw [e] at p
    dsimp only at p
    refine hm.run r e _ fun F1 H1 fps1 vx sF r1 dp => ?_
    split at p
    · rename_i d hd
      obtain ⟨w, hw, rf, pt⟩ := r1.pt i hd
      cases e1 : mp d (s1.set i none) with
      | no => rw [e1] at p; exact p.elim
      | ok π s2 =>
        rw [e1] at p
        dsimp only at p
        cases e2 : me s2 with
        | no => rw [e2] at p; exact p.elim
        | ok z s3 =>
          rw [e2] at p
          dsimp only at p
          split at p
          · rename_i j xs hx
            split at p
            · rename_i n hn
              split at p
              · rename_i d' hs
                refine (hp _).run rf e1 hw pt (by rw [hx]; rfl) _ fun F2 H2 fps2 v sF2 r2 vp => ?_
                obtain ⟨p2, a2, _⟩ := pt.stay r2 sF2
                refine (he _).run r2 e2 _ fun F3 H3 fps3 zz sF3 r3 dz => ?_
                obtain ⟨p3, a3, _⟩ := p2.stay r3 sF3
                cases dz
                obtain ⟨v3, fp3, vp3, _, ow3, sub3, nd3, wand⟩ := ow_path p3.ow ((hp c).kd e1) hx p3.nd
                obtain ⟨v2, _, vq, vq2, _, _, _, _⟩ := ow_path p2.ow ((hp c).kd e1) hx p2.nd
                have ev : v = v3 := by rw [VP.fun vp vq]; exact VP.fun (vq2 H3 a3) vp3
                subst ev
                obtain ⟨a, ys, es, rfl, e3, ha, rfl, al⟩ := ls_sh ow3
                cases e3
                refine ⟨a, ys, j, n, rfl, rfl, ha, by rw [dpa_len al]; exact hn, ?_⟩
                have hF : F3 a = none := (p3.pr a (sub3 a (by simp))).1
                obtain ⟨fp4, d4, es4, ow4, nd4, sub4⟩ := wand F3 (upd H3 a (.lst (ys.set n vx))) (.list (xs.set n x)) [a] (Same.refl _) (fun q hq hn' => upd_ne fun y => hn' (by simp [y])) (ls_ow upd_same (dpa_set (dp_mono (sF2.trans sF3) dp) n al)) (fun q hq _ => hq) (by simp)
                rw [hs] at es4
                cases es4
                refine p F3 _ σ _ ((sF.trans sF2).trans sF3) (r1.putback hw r3 (sub3 a (by simp)) ow4 nd4 fun q hq => .inl ?_)
                rcases sub4 q hq with h | h
                · have : q = a := by simpa using h
                  rw [this]; exact sub3 a (by simp)
                · exact h.1
              · exact p.elim
            · exact p.elim
          · exact p.elim
    · exact p.elim⟩
/-- x..append(v) -/
def sAppP (i : Nat) (mp : D → M (List Sel)) (m : M D) : MS := fun s => match s[i]? with
  | some (some d) => match mp d (s.set i none) with
    | .ok π s2 => match m s2 with
      | .ok v s3 => match getP π d with
        | some (.list xs) => if decide (xs.length < sizeLine) then (match setP π d (.list (xs ++ [v])) with
          | some d' => .nx (s3.set i (some d'))
          | none => .no) else .no
        | _ => .no
      | .no => .no
    | .no => .no
  | _ => .no
theorem c_appP {mp : D → M (List Sel)} (i : Nat) (hp : ∀ c', DPl K c' O i (unpm (O.getD i .sh)) tp mp (.ls .sh)) (hm : ∀ c', DE K c' O te m) : DC K c Ob O (tDrop (tBM K "list" rAppend tp (tCons te tNil))) (sAppP i mp m) O := ⟨fun {F H σ fps ds} r E p => by
  unfold sAppP at p
  split at p
  · rename_i d hd
    obtain ⟨w, hw, rf, pt⟩ := r.pt i hd
    cases e1 : mp d (ds.set i none) with
    | no => rw [e1] at p; exact p.elim
    | ok π s2 =>
      rw [e1] at p
      dsimp only at p
      cases e2 : m s2 with
      | no => rw [e2] at p; exact p.elim
      | ok x s3 =>
        rw [e2] at p
        dsimp only at p
        split at p
        · rename_i xs hx
          split at p
          · rename_i hz
            split at p
            · rename_i d' hs
              refine (hp _).run rf e1 hw pt (by rw [hx]; rfl) _ fun F2 H2 fps2 v sF2 r2 vp => ?_
              obtain ⟨p2, a2, _⟩ := pt.stay r2 sF2
              obtain ⟨v2, fp2, vq, vq2, ow2, _, _, _⟩ := ow_path p2.ow ((hp c).kd e1) hx p2.nd
              have ev2 : v = v2 := VP.fun vp vq
              subst ev2
              obtain ⟨a0, ys0, es0, rfl, _, ha0, _, _⟩ := ls_sh ow2
              refine ⟨.inl ⟨rfl, ys0, SqL.of ha0⟩, ?_⟩
              refine (hm _).run r2 e2 _ fun F3 H3 fps3 vx sF3 r3 dp => ?_
              obtain ⟨p3, a3, _⟩ := p2.stay r3 sF3
              obtain ⟨v3, fp3, vp3, _, ow3, sub3, nd3, wand⟩ := ow_path p3.ow ((hp c).kd e1) hx p3.nd
              have ev : V.ref a0 = v3 := VP.fun (vq2 H3 a3) vp3
              subst ev
              obtain ⟨a, ys, es, e4, e3, ha, rfl, al⟩ := ls_sh ow3
              cases e3
              cases e4
              refine ⟨a0, ys, vx, rfl, rfl, ha, by rw [dpa_len al]; exact of_decide_eq_true hz, ?_⟩
              obtain ⟨fp4, d4, es4, ow4, nd4, sub4⟩ := wand F3 (upd H3 a0 (.lst (ys ++ [vx]))) (.list (xs ++ [x])) [a0] (Same.refl _) (fun q hq hn' => upd_ne fun y => hn' (by simp [y])) (ls_ow upd_same (dpa_append al (.cons dp .nil))) (fun q hq _ => hq) (by simp)
              rw [hs] at es4
              cases es4
              refine p F3 _ σ _ (sF2.trans sF3) (r.putback hw r3 (sub3 a0 (by simp)) ow4 nd4 fun q hq => .inl ?_)
              rcases sub4 q hq with h | h
              · have : q = a0 := by simpa using h
                rw [this]; exact sub3 a0 (by simp)
              · exact h.1
            · exact p.elim
          · exact p.elim
        · exact p.elim
  · exact p.elim⟩
end
end Z
set_option Elab.async false
set_option linter.all false
set_option maxRecDepth 100000
set_option maxHeartbeats 4000000
namespace Z
open PySem L2 PyProof.Rows
/-! ### min(xs, key=abs) -/
def ab (x : Int) : Int := if x < 0 then -x else x
/-- the first one of the least size -/
def minA : Int → List Int → Int
  | b, [] => b
  | b, x :: r => if ab x < ab b then minA x r else minA b r
section
variable {prog : Program} {w : World} {A : Around} {E : Value → Shared → Prop} {s : Shared} {l I S : Addr} {vs : List Value} {ns : List Int} {R : Result → Shared → Prop}
theorem minAbs_loop (hh : A.handled = none) (hl : s.heap.IsList l vs.toArray) (hi : IntsAre vs ns) (hlI : l ≠ I) (hSI : S ≠ I) (hS : s.heap.get? S = none) (hI : s.heap.get? I = none) {best : Int}
    (hR : ∀ t h' tk', (∀ b o, s.heap.get? b = some o → h'.get? b = some o) → R (.ok (.ret (.int best t))) { s with heap := h', toks := tk' }) :
    ∀ (r j : Nat) (h : Heap) (tk : Nat) (b : Int) (t1 t2 : Tok) (c : Nat), ns.length - (j + 1) = r → j + 1 ≤ ns.length → (∀ b o, s.heap.get? b = some o → h.get? b = some o) →
      h.get? S = some (seqObj "list" #[.int b t1, .int (ab b) t2] c) → h.IsListIter I l (j + 1) → minA b (ns.drop (j + 1)) = best →
      codeAny (model prog w) A (.builtin "min.loop" ⟨[.ref I, .builtin "abs", .ref S], []⟩) R { s with heap := h, toks := tk } := by
  have hnm : (toString "min" ++ toString ".loop" : String) = "min.loop" := by decide
  have W := Walks.list (prog := prog) (w := w) (A := A.in1) hh I l hlI vs.toArray
  have hz : vs.toArray.size = ns.length := by rw [List.size_toArray]; exact hi.length
  have lst : ∀ h : Heap, (∀ b o, s.heap.get? b = some o → h.get? b = some o) → h.IsList l vs.toArray := fun h k => by
    obtain ⟨o, e, q⟩ := hl
    exact ⟨o, k _ _ e, q⟩
  intro r
  induction r with
  | zero =>
    intro j h tk b t1 t2 c hr hj k gS it hb
    have hin : j + 1 = ns.length := by omega
    refine codeAny_builtin PySem.F.entry_min_loop ?_
    rw [Around.under_plainId PySem.F.plain_min_loop _]
    refine wpAny_bind (m := seqItems? (.ref S)) (wpAny_seqItems gS rfl ?_)
    refine wpAny_bind (m := tryCatch (pyNext (.ref I)) _) (wpAny_tryCatch (W.done _ _ _ ⟨by rw [hz, ← hin]; exact it, lst h k⟩ fun h' tk' hk' => ?_))
    have gS' := hk' S _ (by simpa using hSI) gS
    refine wpAny_bind (m := updateSeq S (fun _ => #[])) (wpAny_updateSeq gS' rfl (wpAny_bind (wpAny_letGo (wpAny_pure ?_))))
    rw [List.drop_of_length_le (by omega)] at hb
    cases hb
    refine hR _ _ _ fun x o e => ?_
    have nS : S ≠ x := fun z => by rw [z, e] at hS; cases hS
    have nI : x ≠ I := fun z => by rw [← z, e] at hI; cases hI
    have e2 := (Heap.SameBut.update h' S (Obj.mapSeq fun _ => (#[] : Array Value))).2 x nS.symm
    exact e2.trans (hk' x o (by simpa using nI) (k x o e))
  | succ r ih =>
    intro j h tk b t1 t2 c hr hj k gS it hb
    have hlt : j + 1 < ns.length := by omega
    refine codeAny_builtin PySem.F.entry_min_loop ?_
    rw [Around.under_plainId PySem.F.plain_min_loop _]
    refine wpAny_bind (m := seqItems? (.ref S)) (wpAny_seqItems gS rfl ?_)
    refine wpAny_bind (m := tryCatch (pyNext (.ref I)) _) (wpAny_tryCatch (W.item (j + 1) _ _ _ (by rw [hz]; exact hlt) ⟨it, lst h k⟩ fun v h' tk' hP hst' hk' => ?_))
    obtain ⟨n, hn⟩ : ∃ n, ns[j + 1]? = some n := ⟨_, List.getElem?_eq_getElem hlt⟩
    obtain ⟨tn, htn⟩ := hi.get (j + 1) n hn
    have hv : v = .int n tn := by
      have : vs[j + 1]? = some v := by simpa using hP
      rw [htn] at this
      exact (Option.some.inj this).symm
    subst hv
    have hd : ns.drop (j + 1) = n :: ns.drop (j + 1 + 1) := by
      rw [List.drop_eq_getElem_cons hlt]
      congr 1
      rw [List.getElem?_eq_getElem hlt] at hn
      exact Option.some.inj hn
    rw [hd] at hb
    have k' : ∀ x o, s.heap.get? x = some o → h'.get? x = some o := fun x o e => hk' x o (by
      have nI : x ≠ I := fun z => by rw [← z, e] at hI; cases hI
      simpa using nI) (k x o e)
    have gS' := hk' S _ (by simpa using hSI) gS
    refine wpAny_bind (m := tryCatch (holding [Value.int n tn] (call (.builtin "abs") [Value.int n tn])) _) (wpAny_tryCatch (wpAny_holding (call_abs_int fun u tk2 => ?_)))
    refine wpAny_bind (m := tryCatch (holding [Value.int n tn, .int (ab n) u] (richCompare .Lt (.int (ab n) u) (.int (ab b) t2) >>= _)) _) (wpAny_tryCatch (wpAny_holding (wpAny_bind (CmpOf.ints_lt (prog := prog) (w := w) (A := A.in1) (P := fun i v => ∃ t, v = .int (if i = 0 then ab n else ab b) t) (fun i => if i = 0 then ab n else ab b) (fun i v h => h) 0 1 _ _ _ _ _ ⟨u, rfl⟩ ⟨t2, rfl⟩ ?_))))
    refine wpAny_bind (wpAny_holding (wpAny_truthy_bool ?_))
    refine wpAny_bind (wpAny_letGo (wpAny_pure ?_))
    unfold minA at hb
    by_cases hb' : ab n < ab b
    · rw [if_pos hb'] at hb
      simp only [if_pos, hb', decide_true, if_true, Nat.one_ne_zero, if_false]
      refine wpAny_bind ?_
      refine wpAny_updateSeq gS' rfl (wpAny_bind (wpAny_letGo ?_))
      rw [hnm]
      have sb := Heap.SameBut.update h' S (Obj.mapSeq fun _ => #[Value.int n tn, Value.int (ab n) u])
      obtain ⟨c2, hc2⟩ : ∃ c2, (h'.update S (Obj.mapSeq fun _ => #[Value.int n tn, Value.int (ab n) u])).get? S = some (seqObj "list" #[Value.int n tn, Value.int (ab n) u] c2) := ⟨_, get?_update_seq gS' fun _ => #[Value.int n tn, Value.int (ab n) u]⟩
      obtain ⟨oI, hoI, hoc, hod⟩ := id hst'.1
      refine wpAny_pure ⟨plainId_quiet PySem.F.plain_min_loop _, ih (j + 1) _ _ n tn u c2 (by omega) hlt (fun x o e => ?_) hc2 ⟨oI, (sb.2 I hSI.symm).trans hoI, hoc, hod⟩ hb⟩
      have nS : x ≠ S := fun z => by rw [← z, e] at hS; cases hS
      exact (sb.2 x nS).trans (k' x o e)
    · rw [if_neg hb'] at hb
      simp only [if_pos, hb', decide_false, Bool.false_eq_true, if_false, Nat.one_ne_zero]
      refine wpAny_bind (wpAny_letGo ?_)
      rw [hnm]
      exact wpAny_pure ⟨plainId_quiet PySem.F.plain_min_loop _, ih (j + 1) _ _ b t1 t2 c (by omega) hlt k' gS' hst'.1 hb⟩
theorem min_abs {Q : Value → Shared → Prop} {n0 : Int} {nr : List Int} (hh : A.handled = none) (hl : s.heap.IsList l vs.toArray) (hi : IntsAre vs (n0 :: nr))
    (hQ : ∀ t h' tk', (∀ b o, s.heap.get? b = some o → h'.get? b = some o) → Q (.int (minA n0 nr) t) { s with heap := h', toks := tk' }) :
    wpAny (model prog w) A (call (.builtin "min") [.ref l] [(Str.ofString "key", .builtin "abs")]) Q E s := by
  have hnm : (toString "min" ++ toString ".loop" : String) = "min.loop" := by decide
  obtain ⟨ol, hol, hlq⟩ := id hl
  have hll : l < s.heap.objs.size := Heap.lt_size hol
  refine kmk_tree PySem.F.kind_min PySem.F.plain_min PySem.F.entry_min (kmk_min_key _ _) ?_
  refine wpAny_bind (m := Builtin.Builtins.bindParams "min" ["key", "default"] 0 ⟨[], [(Str.ofString "key", .builtin "abs")]⟩) (wpAny_of_eq (a := [some (Value.builtin "abs"), none]) rfl ?_)
  refine wpAny_bind (wpAny_pure (wpAny_bind (wpAny_pyIter_list hl (wpAny_bind (wpAny_newList ?_ (Nat.zero_le _))))))
  rw [hnm]
  let h1 := s.heap.push { cls := .type "list_iterator", data := .fields #[.ref l, .int 0 0] }
  have hS : h1.objs.size = s.heap.objs.size + 1 := size_push' ..
  have hlI : l ≠ s.heap.objs.size := Nat.ne_of_lt hll
  have hSI : h1.objs.size ≠ s.heap.objs.size := by rw [hS]; exact Nat.succ_ne_self _
  have zS : s.heap.get? h1.objs.size = none := Heap.get?_none_of_le (by rw [hS]; exact Nat.le_succ _)
  have zI : s.heap.get? s.heap.objs.size = none := Heap.get?_none_of_le (Nat.le_refl _)
  refine wpAny_pure ⟨plainId_quiet PySem.F.plain_min_loop _, ?_⟩
  have k0 : ∀ b o, s.heap.get? b = some o → (h1.push (seqObj "list" #[] 0)).get? b = some o := fun b o e => Heap.get?_push_of_some _ (Heap.get?_push_of_some _ e)
  have gI : (h1.push (seqObj "list" #[] 0)).get? s.heap.objs.size = some { cls := .type "list_iterator", data := .fields #[.ref l, .int 0 0] } := Heap.get?_push_of_some _ (Heap.get?_push_size _ rfl)
  have gS : (h1.push (seqObj "list" #[] 0)).get? h1.objs.size = some (seqObj "list" #[] 0) := Heap.get?_push_size _ rfl
  have W := Walks.list (prog := prog) (w := w) (A := A.in1) hh s.heap.objs.size l hlI vs.toArray
  have hz : vs.toArray.size = nr.length + 1 := by rw [List.size_toArray]; exact hi.length
  refine codeAny_builtin PySem.F.entry_min_loop ?_
  rw [Around.under_plainId PySem.F.plain_min_loop _]
  refine wpAny_bind (m := seqItems? (.ref _)) (wpAny_seqItems gS rfl ?_)
  refine wpAny_bind (m := tryCatch (pyNext (.ref s.heap.objs.size)) _) (wpAny_tryCatch (W.item 0 _ _ _ (by rw [hz]; omega) ⟨⟨_, gI, rfl, rfl⟩, ⟨ol, k0 _ _ hol, hlq⟩⟩ fun v h' tk' hP hst' hk' => ?_))
  obtain ⟨tn, htn⟩ := hi.get 0 n0 rfl
  have hv : v = .int n0 tn := by
    have : vs[0]? = some v := by simpa using hP
    rw [htn] at this
    exact (Option.some.inj this).symm
  subst hv
  have k' : ∀ x o, s.heap.get? x = some o → h'.get? x = some o := fun x o e => hk' x o (by
    have nI : x ≠ s.heap.objs.size := fun z => by rw [← z, e] at zI; cases zI
    simpa using nI) (k0 x o e)
  have gS' := hk' _ _ (by simpa using hSI) gS
  refine wpAny_bind (m := tryCatch (holding [Value.int n0 tn] (call (.builtin "abs") [Value.int n0 tn])) _) (wpAny_tryCatch (wpAny_holding (call_abs_int fun u tk2 => ?_)))
  refine wpAny_bind (m := updateSeq h1.objs.size (fun _ => #[Value.int n0 tn, Value.int (ab n0) u])) (wpAny_updateSeq gS' rfl ?_)
  rw [hnm]
  have sb := Heap.SameBut.update h' h1.objs.size (Obj.mapSeq fun _ => #[Value.int n0 tn, Value.int (ab n0) u])
  obtain ⟨c2, hc2⟩ : ∃ c2, (h'.update h1.objs.size (Obj.mapSeq fun _ => #[Value.int n0 tn, Value.int (ab n0) u])).get? h1.objs.size = some (seqObj "list" #[Value.int n0 tn, Value.int (ab n0) u] c2) := ⟨_, get?_update_seq gS' fun _ => #[Value.int n0 tn, Value.int (ab n0) u]⟩
  obtain ⟨oI, hoI, hoc, hod⟩ := id hst'.1
  refine wpAny_pure ⟨plainId_quiet PySem.F.plain_min_loop _, minAbs_loop hh hl hi hlI hSI zS zI (best := minA n0 nr) (fun t h2 tk3 kk => hQ t h2 tk3 kk) _ 0 _ _ n0 tn u c2 rfl (by simp) (fun x o e => ?_) hc2 ⟨oI, (sb.2 _ hSI.symm).trans hoI, hoc, hod⟩ rfl⟩
  have nS : x ≠ h1.objs.size := fun z => by rw [← z, e] at zS; cases zS
  exact (sb.2 x nS).trans (k' x o e)
end
/-- min(e, key=abs) -/
def tMinA (K : Fg) (t : TA) : TE := fun σ H Q => t σ H fun vs H1 => ∃ a n0 nr, vs = [.ref a] ∧ SqL K H1 a ((n0 :: nr).map V.int) ∧ Q (.int (minA n0 nr)) H1
theorem pe_minA {X : Cx} {e : Expr} {t : TA} {p p2 kp pos : Pos} (hc : X.calm = true) (hg : Gl X "min") (hm : X.mg "min" = none) (hga : Gl X "abs") (hma : X.mg "abs" = none) (ha : PA X [e] t)
    (he : backTo pos (starEach [e] X.env) = (false, eval e X.env) :: backTo pos (starEach [] X.env) := by rfl) (hpl : (backTo pos (starEach [e] X.env)).any (·.1) = false := by rfl) :
    PE X (.Call (.Name "min" p) [e] [⟨some "key", .Name "abs" p2, kp⟩] pos) (tMinA X.K t) := by
  refine ⟨fun pins s σ H Q I h => ?_⟩
  refine wpAny_Call_Name_kw (ld_blt I hg hm boot_min ?_ (by decide) (by decide))
  refine callWith_kw (thn (ha.run pos pins s σ H _ I h) fun us s1 ⟨vs, H1, I1, r1, a, n0, nr, e1, sq, q1⟩ => ?_) he hpl
  subst e1
  obtain rfl := Vals.ref1 r1
  show wpAny _ _ (evalAll [do let v ← eval (.Name "abs" p2) X.env; standAt pos; pure v]) _ _ s1
  refine wpAny_evalAll_cons (wpAny_bind (ld_blt I1 hga hma boot_abs (wpAny_bind (wpAny_standAt (wpAny_pure (wpAny_evalAll_nil ?_)))) (by decide) (by decide)))
  obtain ⟨its, rv, hl, hz⟩ := I1.list sq
  exact min_abs (I1.ok.hd hc) hl.isList rv.ints fun t h' tk' k => ⟨.int (minA n0 nr), H1, I1.kept k, ⟨t, rfl⟩, q1⟩
section
variable {K : Fg} {c : Ctx} {O : List Kd} {tl : TA} {bl : M (List BR)}
def intsD : List D → Option (List Int)
  | [] => some []
  | .int i :: r => (intsD r).map (i :: ·)
  | _ => none
theorem intsD_eq : ∀ {ds : List D} {ns : List Int}, intsD ds = some ns → ds = ns.map .int
  | [], ns, e => by cases e; rfl
  | d :: r, ns, e => by
    cases d with
    | int i =>
      unfold intsD at e
      cases z : intsD r with
      | none => rw [z] at e; cases e
      | some l => rw [z] at e; cases e; rw [List.map_cons, intsD_eq z]
    | _ => cases e
theorem intsD_of : ∀ ns : List Int, intsD (ns.map .int) = some ns
  | [] => rfl
  | n :: r => by rw [List.map_cons]; unfold intsD; rw [intsD_of r]; rfl
theorem dpa_ints {F : Hp} : ∀ {vs : List V} {ns : List Int}, DpAll K F vs (ns.map .int) → vs = ns.map .int
  | _, [], .nil => rfl
  | _, n :: r, .cons h t => by cases h; rw [List.map_cons, dpa_ints t]
def minAD : List D → Option D
  | [.list ds] => match intsD ds with
    | some (n :: r) => some (.int (minA n r))
    | _ => none
  | _ => none
theorem d_minA (h : DAB K c O tl bl) : DE K c O (tMinA K tl) (mB1 minAD bl) := ⟨fun {F H σ fps ds ds' d} rl e Q q => by
  obtain ⟨xs, s1, e1, g1⟩ := bnd_ok e
  split at g1
  · rename_i es he
    obtain ⟨g2, z⟩ := opt_ok g1
    subst z
    refine h.run rl e1 _ fun F1 H1 fps1 vs sF r1 bv => ?_
    have va := resA r1 bv he
    unfold minAD at g2
    split at g2
    · rename_i l
      split at g2
      · rename_i n r hn
        cases g2
        cases va with
        | cons h1 t1 =>
          cases t1
          obtain ⟨p, ys, rfl, s2, a2⟩ := h1.lst r1.sub
          rw [intsD_eq hn] at a2
          have := dpa_ints a2
          subst this
          exact ⟨p, n, r, rfl, s2, q F1 H1 fps1 _ sF r1 (.int _)⟩
      · cases g2
    · cases g2
  · cases g1⟩
end
section
variable {Q : D → Prop}
theorem so_minA_0 {n : Int} {r : List Int} : So0 (minAD [.list ((n :: r).map .int)]) Q = Q (.int (minA n r)) := by
  unfold minAD
  simp only [intsD_of]
  rfl
theorem so_minA {n : Int} {r : List Int} (q : Q (.int (minA n r))) : So (minAD [.list ((n :: r).map .int)]) Q := by with_unfolding_all exact so_minA_0.mpr q
theorem ab_eq (x : Int) : ab x = x.natAbs := by unfold ab; split <;> omega
theorem minA_mem : ∀ (r : List Int) (n : Int), minA n r ∈ n :: r
  | [], n => by simp [minA]
  | x :: r, n => by
    unfold minA
    split
    · exact List.mem_cons_of_mem _ (minA_mem r x)
    · have := minA_mem r n
      rcases List.mem_cons.mp this with h | h
      · rw [h]; exact List.mem_cons_self
      · exact List.mem_cons_of_mem _ (List.mem_cons_of_mem _ h)
theorem minA_le : ∀ (r : List Int) (n : Int), ∀ y ∈ n :: r, (minA n r).natAbs ≤ y.natAbs
  | [], n => by simp [minA]
  | x :: r, n => by
    intro y hy
    unfold minA
    rw [ab_eq, ab_eq]
    split
    · rename_i h
      have h1 := minA_le r x
      have h2 := h1 x (by simp)
      rcases List.mem_cons.mp hy with e | hy
      · subst e; omega
      · exact h1 y hy
    · rename_i h
      have h1 := minA_le r n
      have h2 := h1 n (by simp)
      rcases List.mem_cons.mp hy with e | hy
      · subst e; omega
      · rcases List.mem_cons.mp hy with e | hy
        · subst e; omega
        · exact h1 y (List.mem_cons_of_mem _ hy)
end
end Z
set_option Elab.async false
set_option linter.all false
set_option maxRecDepth 100000
namespace Z
open PySem L2
/-! ### a thing of one's own read as data for a while -/
mutual
def noL : D → Bool
  | .none => true
  | .bool _ => true
  | .int _ => true
  | .str _ => true
  | .tuple xs => noLs xs
  | _ => false
def noLs : List D → Bool
  | [] => true
  | x :: r => noL x && noLs r
end
def flatOwn : D → Bool
  | .list xs => noLs xs
  | _ => false
def frzF (F H : Hp) (fp : List Addr) : Hp := fun b => if b ∈ fp then H b else F b
def minF (F : Hp) (fp : List Addr) : Hp := fun b => if b ∈ fp then none else F b
section
variable {K : Fg} {F H : Hp} {fp : List Addr}
theorem minF_in {b : Addr} (h : b ∈ fp) : minF F fp b = none := if_pos h
theorem minF_out {b : Addr} (h : b ∉ fp) : minF F fp b = F b := if_neg h
theorem same_frz (h : ∀ q ∈ fp, F q = none) : Same F (frzF F H fp) := fun b u e => by
  unfold frzF
  by_cases z : b ∈ fp
  · rw [h b z] at e; cases e
  · rw [if_neg z]; exact e
theorem ow_frz {G : Hp} (hs : Same F G) (hG : ∀ q ∈ fp, G q = H q) : ∀ {k : Kd} {v : V} {d : D} {fp' : List Addr}, listy k = true → Ow K F H k v d fp' → (∀ q ∈ fp', q ∈ fp) → Dp K G v d := by
  intro k
  induction k with
  | sh => intro v d fp' _ h _; exact dp_mono hs h.2
  | ls k ih =>
    intro v d fp' hl h sub
    obtain ⟨p, xs, ds, fs, rfl, rfl, hp, rfl, al⟩ := h
    refine .lst (SqL.of (by rw [hG p (sub p List.mem_cons_self)]; exact hp)) ?_
    have al' : All3 (fun v d (f : List Addr) => Dp K G v d) xs ds fs := al.imp fun a b c hc o => ih hl o fun q hq => sub q (List.mem_cons_of_mem _ (List.mem_flatten.mpr ⟨c, hc, hq⟩))
    clear al hp sub
    induction al' with
    | nil => exact .nil
    | cons h _ ih2 => exact .cons h ih2
  | pm k ih => intro v d fp' hl h sub; exact ih hl h sub
  | dc => intro v d fp' hl; cases hl
  | oe _ => intro v d fp' hl; cases hl
  | of _ _ _ _ _ => intro v d fp' hl; cases hl
  | te => intro v d fp' hl; cases hl
  | tc _ _ _ _ => intro v d fp' hl; cases hl
  | op _ _ => intro v d fp' hl; cases hl
  | xr _ => intro v d fp' hl; cases hl
theorem ow_lists : ∀ {k : Kd} {v : V} {d : D} {fp' : List Addr}, listy k = true → Ow K F H k v d fp' → ∀ q ∈ fp', ∃ xs, H q = some (.lst xs) := by
  intro k
  induction k with
  | sh => intro v d fp' _ h q hq; rw [h.1] at hq; cases hq
  | ls k ih =>
    intro v d fp' hl h q hq
    obtain ⟨p, xs, ds, fs, rfl, rfl, hp, rfl, al⟩ := h
    rcases List.mem_cons.mp hq with rfl | hq
    · exact ⟨xs, hp⟩
    · obtain ⟨f, hf, hq⟩ := List.mem_flatten.mp hq
      have : ∀ {xs : List V} {ds : List D} {fs : List (List Addr)}, All3 (Ow2 K F H k).1 xs ds fs → f ∈ fs → ∃ ys, H q = some (.lst ys) := fun al => by
        induction al with
        | nil => intro h; cases h
        | cons o _ ih2 =>
          intro h
          rcases List.mem_cons.mp h with rfl | h
          · exact ih hl o q hq
          · exact ih2 h
      exact this al hf
  | pm k ih => intro v d fp' hl h; exact ih hl h
  | dc => intro v d fp' hl; cases hl
  | oe _ => intro v d fp' hl; cases hl
  | of _ _ _ _ _ => intro v d fp' hl; cases hl
  | te => intro v d fp' hl; cases hl
  | tc _ _ _ _ => intro v d fp' hl; cases hl
  | op _ _ => intro v d fp' hl; cases hl
  | xr _ => intro v d fp' hl; cases hl
mutual
theorem dp_min (hL : ∀ q ∈ fp, ∃ xs, F q = some (.lst xs)) : ∀ {v : V} {d : D}, Dp K F v d → noL d = true → Dp K (minF F fp) v d
  | _, _, .non, _ => .non
  | _, _, .bl b, _ => .bl b
  | _, _, .int i, _ => .int i
  | _, _, .str x, _ => .str x
  | _, _, .lst h r, n => by cases n
  | _, _, .tup (a := a) h r, n => by
    refine .tup ?_ (dpa_min hL r (by simpa [noL] using n))
    rcases h with (h | ⟨o, h⟩) | h
    · refine .inl (.inl ?_)
      rw [minF_out fun z => by obtain ⟨xs, e⟩ := hL a z; rw [e] at h; cases h]
      exact h
    · refine .inl (.inr ⟨o, ?_⟩)
      rw [minF_out fun z => by obtain ⟨xs, e⟩ := hL a z; rw [e] at h; cases h]
      exact h
    · exact .inr h
theorem dpa_min (hL : ∀ q ∈ fp, ∃ xs, F q = some (.lst xs)) : ∀ {vs : List V} {ds : List D}, DpAll K F vs ds → noLs ds = true → DpAll K (minF F fp) vs ds
  | _, _, .nil, _ => .nil
  | _, _, .cons h r, n => by
    rw [noLs, Bool.and_eq_true] at n
    exact .cons (dp_min hL h n.1) (dpa_min hL r n.2)
end
end
def mix (s s' : DS) : List Nat → DS
  | [] => s
  | j :: js => (mix s s' js).set j (s'[j]?.getD none)
theorem mix_len (s s' : DS) : ∀ js : List Nat, (mix s s' js).length = s.length
  | [] => rfl
  | j :: js => by unfold mix; rw [List.length_set]; exact mix_len s s' js
theorem mix_out (s s' : DS) : ∀ (js : List Nat) (i : Nat), i ∉ js → (mix s s' js)[i]? = s[i]?
  | [], i, _ => rfl
  | j :: js, i, h => by
    unfold mix
    rw [List.getElem?_set_ne fun z => h (by simp [z])]
    exact mix_out s s' js i fun z => h (by simp [z])
theorem mix_in (s s' : DS) : ∀ (js : List Nat) (i : Nat) (d : D), i ∈ js → (mix s s' js)[i]? = some (some d) → s'[i]? = some (some d)
  | [], i, d, h, _ => by cases h
  | j :: js, i, d, h, e => by
    unfold mix at e
    by_cases z : i = j
    · subst z
      by_cases hl : i < (mix s s' js).length
      · rw [List.getElem?_set_self hl] at e
        cases y : s'[i]? with
        | none => rw [y] at e; cases e
        | some o => rw [y] at e; simpa using e
      · rw [List.getElem?_eq_none (by rw [List.length_set]; omega)] at e; cases e
    · rw [List.getElem?_set_ne fun y => z y.symm] at e
      exact mix_in s s' js i d (by simpa [z] using h) e
def fzOk (js : List Nat) (s : DS) : Bool := js.all fun j => match s[j]? with
  | some (some d) => flatOwn d
  | _ => true
def mFz (i : Nat) (js : List Nat) (m : M D) : M D := fun s => match s[i]? with
  | some (some _) => match m s with
    | .ok d s' => if noL d && fzOk js s' then .ok d (mix s s' js) else .no
    | .no => .no
  | _ => .no
/-- all slots but i are read alone, or among js -/
def fzO (O : List Kd) (i : Nat) (js : List Nat) : Bool := (List.range O.length).all (fun j => j == i || (js.contains j && lsish (O.getD j .sh)) || (!js.contains j && O.getD j .sh == .sh)) && !js.contains i && js.all (· < O.length)
section
variable {K : Fg} {c : Ctx} {O : List Kd} {t : TE} {m : M D}
theorem d_fz (i : Nat) (js : List Nat) (h : ∀ c', DE K c' (O.set i .sh) t m) (hk : listy (O.getD i .sh) = true := by rfl) (hO : fzO O i js = true := by decide) (hi : i < O.length := by first | decide | exact of_decide_eq_true rfl) : DE K c O t (mFz i js m) := ⟨fun {F H σ fps ds ds' d} r e Q q => by
  unfold mFz at e
  unfold fzO at hO
  rw [Bool.and_eq_true, Bool.and_eq_true] at hO
  obtain ⟨⟨hO, hij⟩, hjl⟩ := hO
  have hij : i ∉ js := by simpa using hij
  have kO : ∀ j, j ≠ i → (j ∈ js ∧ lsish (O.getD j .sh) = true) ∨ (j ∉ js ∧ O.getD j .sh = .sh) := fun j hj => by
    by_cases hl : j < O.length
    · have := List.all_eq_true.mp hO j (by simpa using hl)
      simp only [Bool.or_eq_true, Bool.and_eq_true, beq_iff_eq, Bool.not_eq_true', List.contains_iff_mem, hj, false_or] at this
      rcases this with h | h
      · exact .inl h
      · refine .inr ⟨?_, h.2⟩
        have := h.1
        simpa using this
    · refine .inr ⟨fun z => hl ?_, ?_⟩
      · simpa using List.all_eq_true.mp hjl j z
      · rw [List.getD_eq_getElem?_getD, List.getElem?_eq_none (by omega)]; rfl
  split at e
  · rename_i di hdi
    cases em : m ds with
    | no => rw [em] at e; cases e
    | ok d1 s1 =>
      rw [em] at e
      dsimp only at e
      split at e
      · rename_i hn
        rw [Bool.and_eq_true] at hn
        cases e
        obtain ⟨hn, hz⟩ := hn
        obtain ⟨w, hw, owi⟩ := r.slots i di hdi
        have offi := fun q hq => r.off i q hq
        have hFi : ∀ q ∈ fps i, F q = none := fun q hq => (offi q hq).1
        have sF1 : Same F (frzF F H (fps i)) := same_frz hFi
        have e1 : ∀ q ∈ fps i, frzF F H (fps i) q = H q := fun q hq => if_pos hq
        have e2 : ∀ q, q ∉ fps i → frzF F H (fps i) q = F q := fun q hq => if_neg hq
        have hdis : ∀ j q, q ∈ asd fps i j → q ∉ fps i := fun j q hq hq' => by
          obtain ⟨z, hq⟩ := asd_sub hq
          exact r.dj j i z q hq hq'
        let c1 : Ctx := { (c.from O F H (asd fps i)) with F0 := frzF F H (fps i), ps := c.ps.set i .sh }
        have c1n : ∀ b, c1.H0 b = none → c.H0 b = none := fun b hb => by
          rcases from_none (c := c) (O := O) (F1 := F) (H1 := H) (fps1 := asd fps i) hb with ⟨j, hj, hp⟩ | hb
          · rcases (r.off j b (asd_sub hj).2).2.2 with h | ⟨_, h⟩
            · exact h
            · rw [hp] at h; cases h
          · exact r.live b hb
        have r1 : Rel K c1 (O.set i .sh) (frzF F H (fps i)) H σ (asd fps i) ds := by
          have ra : Rel K c O F H σ (asd fps i) (ds.set i none) := r.aside i
          have rf := ra.focus
          refine ⟨fun b u e => ?_, Same.refl _, rf.keep, rf.live, fun b u e => .inl e, fun j d0 hj => ?_, fun j q hq => ?_, rf.nd, rf.dj, fun j k hj => ?_, r.len⟩
          · by_cases z : b ∈ fps i
            · rw [e1 b z] at e; exact e
            · rw [e2 b z] at e; exact r.sub b u e
          · by_cases z : j = i
            · subst z
              rw [hdi] at hj
              cases hj
              refine ⟨w, hw, ?_⟩
              rw [getD_set_eq hi]
              exact ⟨if_pos rfl, ow_frz sF1 e1 hk owi fun q hq => hq⟩
            · obtain ⟨u, hu, ow⟩ := r.slots j d0 hj
              refine ⟨u, hu, ?_⟩
              rw [getD_set_ne z]
              have : asd fps i j = fps j := if_neg z
              rw [this]
              exact ow_mono sF1 ow fun _ _ => rfl
          · obtain ⟨a, b, cc⟩ := rf.off j q hq
            refine ⟨by rw [e2 q (hdis j q hq)]; exact a, b, ?_⟩
            have z := (asd_sub hq).1
            rw [List.getElem?_set_ne (Ne.symm z)]
            exact cc
          · have hj : (c.ps.set i .sh)[j]? = some (.pm k) := hj
            by_cases z : j = i
            · subst z
              by_cases hl : j < c.ps.length
              · rw [List.getElem?_set_self hl] at hj; cases hj
              · rw [List.getElem?_eq_none (by rw [List.length_set]; omega)] at hj; cases hj
            · rw [List.getElem?_set_ne (Ne.symm z)] at hj
              obtain ⟨a, b⟩ := r.par j k hj
              exact ⟨by rw [List.getElem?_set_ne (Ne.symm z)]; exact a, b⟩
        refine (h c1).run r1 em _ fun F2 H2 fps2 v sF2 r2 dp => ?_
        have hn1 : ∀ q ∈ fps i, ∀ j, q ∉ asd fps i j := fun q hq j hj => hdis j q hj hq
        have H0i : ∀ q ∈ fps i, c1.H0 q = H q := fun q hq => from_some (c := c) (F1 := F) fun ⟨j, hj, _⟩ => hn1 q hq j hj
        have owi1 : ∀ q ∈ fps i, ¬ c1.own q := fun q hq ⟨j, hj, _⟩ => hn1 q hq j hj
        have kp : ∀ q ∈ fps i, H2 q = H q := fun q hq => by
          cases z : H q with
          | none => exact absurd z (offi q hq).2.1
          | some o => exact r2.keep q o (by rw [H0i q hq]; exact z) (owi1 q hq)
        have F2i : ∀ q ∈ fps i, F2 q = H q := fun q hq => by
          cases z : H q with
          | none => exact absurd z (offi q hq).2.1
          | some o => exact sF2 q o (by rw [e1 q hq]; exact z)
        have lsi : ∀ q ∈ fps i, ∃ xs, F2 q = some (.lst xs) := fun q hq => by
          obtain ⟨xs, hx⟩ := ow_lists hk owi q hq
          exact ⟨xs, by rw [F2i q hq]; exact hx⟩
        have o2i : ∀ j q, q ∈ fps2 j → q ∉ fps i := fun j q hq hq' => by
          rcases (r2.off j q hq).2.2 with h | ⟨h, _⟩
          · rw [H0i q hq'] at h; exact (offi q hq').2.1 h
          · exact owi1 q hq' h
        have sF3 : Same F (minF F2 (fps i)) := fun b u e => by
          have hb : b ∉ fps i := fun z => by rw [hFi b z] at e; cases e
          rw [minF_out hb]
          exact sF2 b u (by rw [e2 b hb]; exact e)
        have fin : Rel K c O (minF F2 (fps i)) H2 σ (fun j => if j = i then fps i else if j ∈ js then fps2 j else []) (mix ds s1 js) := by
          have cs : ∀ j q, q ∈ (if j = i then fps i else if j ∈ js then fps2 j else []) → (j = i ∧ q ∈ fps i) ∨ (j ≠ i ∧ j ∈ js ∧ q ∈ fps2 j) := fun j q hq => by
            by_cases z : j = i
            · rw [if_pos z] at hq; exact .inl ⟨z, hq⟩
            · rw [if_neg z] at hq
              by_cases y : j ∈ js
              · rw [if_pos y] at hq; exact .inr ⟨z, y, hq⟩
              · rw [if_neg y] at hq; cases hq
          refine ⟨fun b u e => ?_, r.base.trans sF3, fun b u e n => ?_, fun b e => c1n b (r2.live b e), fun b u e => ?_, fun j d0 hj => ?_, fun j q hq => ?_, fun j => ?_, fun j l hjl q hq hq' => ?_, r.par, by rw [mix_len]; exact r.len⟩
          · by_cases z : b ∈ fps i
            · rw [minF_in z] at e; cases e
            · rw [minF_out z] at e; exact r2.sub b u e
          · have hH := r.keep b u e n
            have hb : ∀ j, b ∉ asd fps i j := fun j hj => by
              rcases (r.off j b (asd_sub hj).2).2.2 with h | ⟨h, _⟩
              · rw [h] at e; cases e
              · exact n h
            exact r2.keep b u (by rw [show c1.H0 b = H b from from_some (c := c) (F1 := F) fun ⟨j, hj, _⟩ => hb j hj]; exact hH) fun ⟨j, hj, _⟩ => hb j hj
          · by_cases z : b ∈ fps i
            · rw [minF_in z] at e; cases e
            · rw [minF_out z] at e
              rcases r2.new b u e with h | h
              · have h : frzF F H (fps i) b = some u := h
                rw [e2 b z] at h; exact r.new b u h
              · exact .inr (c1n b h)
          · by_cases z : j = i
            · subst z
              rw [mix_out _ _ _ _ hij, hdi] at hj
              cases hj
              refine ⟨w, hw, ?_⟩
              rw [if_pos rfl]
              exact ow_mono sF3 owi kp
            · rcases kO j z with ⟨y, hl⟩ | ⟨y, hs⟩
              · have hj' := mix_in _ _ _ _ _ y hj
                obtain ⟨u, hu, ow⟩ := r2.slots j d0 hj'
                refine ⟨u, hu, ?_⟩
                rw [getD_set_ne z] at ow
                rw [if_neg z, if_pos y]
                obtain ⟨p, xs, es, rfl, rfl, hp, hf, al⟩ := ow_ls hl ow
                have fo : noLs es = true := by
                  have := List.all_eq_true.mp hz j y
                  simp only [hj'] at this
                  exact this
                have ow' : Ow K (minF F2 (fps i)) H2 (.ls .sh) (.ref p) (.list es) [p] := ls_ow hp (dpa_min lsi al fo)
                rw [hf]
                unfold lsish at hl
                split at hl
                · rename_i eq; rw [eq]; exact ow'
                · rename_i eq; rw [eq]; exact ow'
                · cases hl
              · rw [mix_out _ _ _ _ y] at hj
                obtain ⟨u, hu, ow⟩ := r.slots j d0 hj
                refine ⟨u, hu, ?_⟩
                rw [hs] at ow ⊢
                rw [if_neg z, if_neg y]
                exact ⟨rfl, dp_mono sF3 ow.2⟩
          · rcases cs j q hq with ⟨z, hq⟩ | ⟨z, y, hq⟩
            · subst z
              exact ⟨minF_in hq, by rw [kp q hq]; exact (offi q hq).2.1, (offi q hq).2.2⟩
            · obtain ⟨a, b, cc⟩ := r2.off j q hq
              refine ⟨by rw [minF_out (o2i j q hq)]; exact a, b, ?_⟩
              rcases cc with h | ⟨⟨l, hl, hp⟩, hp'⟩
              · exact .inl (c1n q h)
              · rw [List.getElem?_set_ne (Ne.symm z)] at hp'
                rcases (r.off l q (asd_sub hl).2).2.2 with h | ⟨h, _⟩
                · exact .inl h
                · exact .inr ⟨h, hp'⟩
          · by_cases z : j = i
            · simp only [if_pos z]; exact r.nd i
            · simp only [if_neg z]
              by_cases y : j ∈ js
              · rw [if_pos y]; exact r2.nd j
              · rw [if_neg y]; simp
          · rcases cs j q hq with ⟨z, h1⟩ | ⟨z, y, h1⟩
            · rcases cs l q hq' with ⟨z', h2⟩ | ⟨z', y', h2⟩
              · exact hjl (z.trans z'.symm)
              · exact o2i l q h2 h1
            · rcases cs l q hq' with ⟨z', h2⟩ | ⟨z', y', h2⟩
              · exact o2i j q h1 h2
              · exact r2.dj j l hjl q h1 h2
        exact q _ H2 _ v sF3 fin (dp_min lsi dp hn)
      · cases e
  · cases e⟩
end
end Z
set_option Elab.async false
set_option linter.all false
set_option maxRecDepth 100000
namespace Z
open PySem L2
section
variable {K : Fg} {c : Ctx} {Ob O O' : List Kd} {F H : Hp} {σ : St} {fps : Nat → List Addr} {ds : DS} {t : TS} {b : MS} {te ta tb ti tp : TE} {m me : M D} {tl : TA} {bl : M (List BR)} {b1 : M BR}
/-! ### part of a thing of one's own is read alone from now on -/
theorem Rel.frzG (r : Rel K c O F H σ fps ds) (i : Nat) {k2 : Kd} {fp2 fz : List Addr} {d : D} {v : V} (hi : i < O.length) (hp : isPm O[i]? = false) (hd : ds[i]? = some (some d)) (hv : σ[i]? = some (some v)) (hz : ∀ q ∈ fz, q ∈ fps i) (h2 : ∀ q ∈ fp2, q ∈ fps i ∧ q ∉ fz) (nd : fp2.Nodup)
    (ow : Ow K (frzF F H fz) H k2 v d fp2) : Same F (frzF F H fz) ∧ Rel K c (O.set i k2) (frzF F H fz) H σ (fun j => if j = i then fp2 else fps j) ds := by
  have hF : ∀ q ∈ fz, F q = none := fun q hq => (r.off i q (hz q hq)).1
  have sF : Same F (frzF F H fz) := same_frz hF
  have h0 : ∀ q ∈ fps i, c.H0 q = none := fun q hq => by
    rcases (r.off i q hq).2.2 with h | ⟨_, h⟩
    · exact h
    · rw [hp] at h; cases h
  have e1 : ∀ q, q ∉ fz → frzF F H fz q = F q := fun q hq => if_neg hq
  have dis : ∀ j q, j ≠ i → q ∈ fps j → q ∉ fz := fun j q hj hq z => r.dj j i hj q hq (hz q z)
  refine ⟨sF, fun b u e => ?_, r.base.trans sF, r.keep, r.live, fun b u e => ?_, fun j d' hj => ?_, fun j q hq => ?_, fun j => ?_, fun j l hjl q hq hq' => ?_, fun j k h => ?_, r.len⟩
  · by_cases z : b ∈ fz
    · have : frzF F H fz b = H b := if_pos z
      rw [this] at e; exact e
    · rw [e1 b z] at e; exact r.sub b u e
  · by_cases z : b ∈ fz
    · exact .inr (h0 b (hz b z))
    · rw [e1 b z] at e; exact r.new b u e
  · by_cases z : j = i
    · subst z
      rw [hd] at hj
      cases hj
      refine ⟨v, hv, ?_⟩
      rw [getD_set_eq hi, if_pos rfl]
      exact ow
    · obtain ⟨u, hu, w⟩ := r.slots j d' hj
      refine ⟨u, hu, ?_⟩
      rw [getD_set_ne z, if_neg z]
      exact ow_mono sF w fun _ _ => rfl
  · by_cases z : j = i
    · subst z
      rw [if_pos rfl] at hq
      obtain ⟨a1, a2⟩ := h2 q hq
      exact ⟨by rw [e1 q a2]; exact (r.off j q a1).1, (r.off j q a1).2.1, .inl (h0 q a1)⟩
    · rw [if_neg z] at hq
      rw [List.getElem?_set_ne (Ne.symm z), e1 q (dis j q z hq)]
      exact r.off j q hq
  · by_cases z : j = i
    · simp only [if_pos z]; exact nd
    · simp only [if_neg z]; exact r.nd j
  · by_cases z : j = i
    · by_cases z' : l = i
      · exact hjl (z.trans z'.symm)
      · simp only [if_pos z] at hq
        simp only [if_neg z'] at hq'
        exact r.dj i l (fun y => z' y.symm) q (h2 q hq).1 hq'
    · simp only [if_neg z] at hq
      by_cases z' : l = i
      · simp only [if_pos z'] at hq'
        exact r.dj j i z q hq (h2 q hq').1
      · simp only [if_neg z'] at hq'
        exact r.dj j l hjl q hq hq'
  · obtain ⟨x, y⟩ := r.par j k h
    have hj : j ≠ i := fun z => by
      subst z
      rw [x] at hp
      cases hp
    exact ⟨by rw [List.getElem?_set_ne (Ne.symm hj)]; exact x, y⟩
/-- the rows are read alone from now on -/
theorem c_frzR (i : Nat) {k : Kd} (hk : O[i]? = some (.ls k)) (hl : listy k = true) (h : DC K c Ob (O.set i (.ls .sh)) t b O') : DC K c Ob O t (sFrz i b) O' := ⟨fun {F H σ fps ds} r E p => by
  unfold sFrz at p
  split at p
  · rename_i d hd
    obtain ⟨v, hv, ow⟩ := r.slots i d hd
    have hk' : O.getD i .sh = .ls k := by rw [List.getD_eq_getElem?_getD, hk]; rfl
    rw [hk'] at ow
    obtain ⟨a, xs, es, fs, rfl, rfl, ha, hfp, al⟩ := ow
    have hF : ∀ q ∈ fs.flatten, F q = none := fun q hq => (r.off i q (by rw [hfp]; exact List.mem_cons_of_mem _ hq)).1
    have sF := same_frz (H := H) hF
    have nd := r.nd i
    rw [hfp, List.nodup_cons] at nd
    have al' : All3 (Ow2 K (frzF F H fs.flatten) H .sh).1 xs es (fs.map fun _ => []) := by
      have al2 : All3 (fun v d (_ : List Addr) => Dp K (frzF F H fs.flatten) v d) xs es fs := al.imp fun a b c hc o => ow_frz sF (fp := fs.flatten) (fun q hq => if_pos hq) hl o fun q hq => List.mem_flatten.mpr ⟨c, hc, hq⟩
      clear al sF hF nd hfp hd ha
      generalize frzF F H fs.flatten = G at al2 ⊢
      induction al2 with
      | nil => exact .nil
      | cons h _ ih => exact .cons ⟨rfl, h⟩ ih
    have efl : (fs.map fun _ => ([] : List Addr)).flatten = [] := by simp
    obtain ⟨s2, r2⟩ := r.frzG i (k2 := .ls .sh) (fp2 := [a]) (fz := fs.flatten) (List.getElem?_eq_some_iff.mp hk).1 (by rw [hk]; rfl) hd hv (fun q hq => by rw [hfp]; exact List.mem_cons_of_mem _ hq)
      (fun q hq => by
        have : q = a := by simpa using hq
        subst this
        exact ⟨by rw [hfp]; simp, nd.1⟩) (by simp) ⟨a, xs, es, _, rfl, rfl, ha, by rw [efl], al'⟩
    exact h.run r2 E (p.mono s2)
  · exact p.elim⟩
/-- the whole is read alone from now on -/
theorem c_frzA (i : Nat) {k : Kd} (hk : O[i]? = some k) (hl : listy k = true) (hp : isPm O[i]? = false) (h : DC K c Ob (O.set i .sh) t b O') : DC K c Ob O t (sFrz i b) O' := ⟨fun {F H σ fps ds} r E p => by
  unfold sFrz at p
  split at p
  · rename_i d hd
    obtain ⟨v, hv, ow⟩ := r.slots i d hd
    have hk' : O.getD i .sh = k := by rw [List.getD_eq_getElem?_getD, hk]; rfl
    rw [hk'] at ow
    have hF : ∀ q ∈ fps i, F q = none := fun q hq => (r.off i q hq).1
    obtain ⟨s2, r2⟩ := r.frzG i (k2 := .sh) (fp2 := []) (fz := fps i) (List.getElem?_eq_some_iff.mp hk).1 hp hd hv (fun q hq => hq) (fun q hq => by cases hq) (by simp) ⟨rfl, ow_frz (same_frz hF) (fp := fps i) (fun q hq => if_pos hq) hl ow fun q hq => hq⟩
    exact h.run r2 E (p.mono s2)
  · exact p.elim⟩
/-- what was made for one's own is read alone -/
theorem DO.eA {k : Kd} (h : DO K c O k te m) (hl : listy k = true := by rfl) : DE K c O te m := ⟨fun {F H σ fps ds ds' d} r e Q q => by
  refine h.run r e _ fun F1 H1 fps1 v fpv sF r1 ow hf nd => ?_
  have hF : ∀ q ∈ fpv, F1 q = none := fun q hq => (hf q hq).1
  have s2 := same_frz (H := H1) hF
  have e1 : ∀ q, q ∉ fpv → frzF F1 H1 fpv q = F1 q := fun q hq => if_neg hq
  refine q (frzF F1 H1 fpv) H1 fps1 v (sF.trans s2) ⟨fun b u e => ?_, r1.base.trans s2, r1.keep, r1.live, fun b u e => ?_, fun i d hd => ?_, fun i q hq => ?_, r1.nd, r1.dj, r1.par, r1.len⟩ (ow_frz s2 (fp := fpv) (fun q hq => if_pos hq) hl ow fun q hq => hq)
  · by_cases z : b ∈ fpv
    · have : frzF F1 H1 fpv b = H1 b := if_pos z
      rw [this] at e; exact e
    · rw [e1 b z] at e; exact r1.sub b u e
  · by_cases z : b ∈ fpv
    · exact .inr (hf b z).2.2.1
    · rw [e1 b z] at e; exact r1.new b u e
  · obtain ⟨u, hu, w⟩ := r1.slots i d hd
    exact ⟨u, hu, ow_mono s2 w fun _ _ => rfl⟩
  · rw [e1 q fun z => (hf q z).2.2.2 i hq]
    exact r1.off i q hq⟩
/-! ### list(x), [x] * n as lists of one's own -/
def listOfD : List D → Option D
  | [.list xs] => some (.list xs)
  | [.tuple xs] => some (.list xs)
  | _ => none
theorem o_listOf (h : DAB K c O tl bl) : DO K c O (.ls .sh) (tCB (rListOf K) tl) (mB1 listOfD bl) := ⟨fun {F H σ fps ds ds' d} rl e Q q => by
  obtain ⟨xs, s1, e1, g1⟩ := bnd_ok e
  split at g1
  · rename_i es he
    obtain ⟨g2, z⟩ := opt_ok g1
    subst z
    refine h.run rl e1 _ fun F1 H1 fps1 vs sF r1 bv => ?_
    have va := resA r1 bv he
    have fin : ∀ {ys : List V} {es : List D}, DpAll K F1 ys es → ∀ l, H1 l = none → d = .list es → Q (.ref l) (upd H1 l (.lst ys)) := fun {ys es} al l hl z => by
      subst z
      obtain ⟨hF, h0, hq⟩ := r1.fresh hl
      refine q F1 _ fps1 (.ref l) [l] sF (r1.allocO hl _) (ls_ow upd_same al) (fun q' hq' => ?_) (by simp)
      have : q' = l := by simpa using hq'
      subst this
      exact ⟨hF, by rw [upd_same]; simp, h0, hq⟩
    unfold listOfD at g2
    split at g2
    · cases g2
      cases va with
      | cons h1 t1 =>
        cases t1
        obtain ⟨p, ys, rfl, s2, a2⟩ := h1.lst r1.sub
        exact ⟨p, ys, rfl, .inl s2, fun l hl => fin a2 l hl rfl⟩
    · cases g2
      cases va with
      | cons h1 t1 =>
        cases t1
        obtain ⟨p, ys, rfl, s2, a2⟩ := h1.tup r1.sub
        exact ⟨p, ys, rfl, .inr s2, fun l hl => fin a2 l hl rfl⟩
    · cases g2
  · cases g1⟩
def repC (n : Nat) (k : Int) : Bool := decide (-(2 ^ 63) ≤ k ∧ k < 2 ^ 63 ∧ n * k.toNat ≤ sizeLine)
def mRep (a b : M D) : M D := bnd a fun x => bnd b fun y => opt (match x, y with
  | .list xs, .int k => if repC xs.length k then some (.list (List.replicate k.toNat xs).flatten) else none
  | _, _ => none)
theorem dpa_rep {F : Hp} {vs : List V} {ds : List D} (h : DpAll K F vs ds) : ∀ n, DpAll K F (List.replicate n vs).flatten (List.replicate n ds).flatten
  | 0 => .nil
  | n + 1 => by
    rw [List.replicate_succ, List.replicate_succ, List.flatten_cons, List.flatten_cons]
    exact dpa_append h (dpa_rep h n)
theorem o_rep {ma mb : M D} (ha : DO K c O (.ls .sh) ta ma) (hb : ∀ c', DE K c' O tb mb) : DO K c O (.ls .sh) (tOp rRep ta tb) (mRep ma mb) := ⟨fun {F H σ fps ds ds' d} rl e Q q => by
  obtain ⟨x, s1, e1, g1⟩ := bnd_ok e
  obtain ⟨y, s2, e2, g2⟩ := bnd_ok g1
  obtain ⟨g3, z⟩ := opt_ok g2
  subst z
  refine ha.run rl e1 _ fun F1 H1 fps1 v fpv sF r1 ow hf nd => ?_
  obtain ⟨p, xs, es, rfl, rfl, hp, rfl, al⟩ := ls_sh ow
  refine (hb _).run r1.focus e2 _ fun F2 H2 fps2 u sF2 r2' du => ?_
  have r2 := r1.unfocus' r2'
  obtain ⟨o1, o2, o3⟩ := r2'.out (hf p (by simp)).1 (hf p (by simp)).2.1 (hf p (by simp)).2.2.2
  cases y with
  | int k =>
    dsimp only at g3
    split at g3
    · rename_i hc
      cases g3
      cases du
      have hc : -(2 ^ 63) ≤ k ∧ k < 2 ^ 63 ∧ es.length * k.toNat ≤ sizeLine := of_decide_eq_true hc
      refine ⟨p, k, xs, rfl, rfl, by rw [o1]; exact hp, hc.1, hc.2.1, by rw [dpa_len al]; exact hc.2.2, fun l hl => ?_⟩
      obtain ⟨hF, h0, hq⟩ := r2.fresh hl
      refine q F2 _ fps2 (.ref l) [l] (sF.trans sF2) (r2.allocO hl _) (ls_ow upd_same (dpa_rep (dpa_mono sF2 al) _)) (fun q' hq' => ?_) (by simp)
      have : q' = l := by simpa using hq'
      subst this
      exact ⟨hF, by rw [upd_same]; simp, h0, hq⟩
    · cases g3
  | _ => cases g3⟩
/-! ### things of one's own put into places -/
/-- x.. [e] = v, v of one's own -/
theorem c_putPO {k1 : Kd} {mp : D → M (List Sel)} (i : Nat) (hm : DO K c O k1 te m) (hp : ∀ c', DPl K c' O i (unpm (O.getD i .sh)) tp mp (.ls k1)) (he : ∀ c', DE K c' O ti me) : DC K c Ob O (tAsg te (gSub tp ti rSetL)) (sPutP i mp me m) O := ⟨fun {F H σ fps ds} r E p => by
  unfold sPutP at p
  cases e : m ds with
  | no => rw [e] at p; exact p.elim
  | ok x s1 =>
    rw [e] at p
    dsimp only at p
    refine hm.run r e _ fun F1 H1 fps1 vx fpx sF r1 owx hfx ndx => ?_
    split at p
    · rename_i d hd
      obtain ⟨w, hw, rf, pt⟩ := r1.pt i hd
      have pw := fun q (hq : q ∈ fps1 i) => (r1.off i q hq).2.2
      -- the new thing is kept, too
      have ptx : Pt K (c.from O F1 H1 (asd fps1 i)) F1 H1 k1 vx x fpx := ⟨owx, ndx, fun q hq => by
        obtain ⟨h1, h2, h3, h4⟩ := hfx q hq
        exact ⟨h1, h2, h1, from_some fun ⟨j, hj, _⟩ => h4 j (asd_sub hj).2, fun ⟨j, hj, _⟩ => h4 j (asd_sub hj).2⟩⟩
      cases e1 : mp d (s1.set i none) with
      | no => rw [e1] at p; exact p.elim
      | ok π s2 =>
        rw [e1] at p
        dsimp only at p
        cases e2 : me s2 with
        | no => rw [e2] at p; exact p.elim
        | ok z s3 =>
          rw [e2] at p
          dsimp only at p
          split at p
          · rename_i j xs hx
            split at p
            · rename_i n hn
              split at p
              · rename_i d' hs
                refine (hp _).run rf e1 hw pt (by rw [hx]; rfl) _ fun F2 H2 fps2 v sF2 r2 vp => ?_
                obtain ⟨p2, a2, _⟩ := pt.stay r2 sF2
                obtain ⟨px2, ax2, _⟩ := ptx.stay r2 sF2
                refine (he _).run r2 e2 _ fun F3 H3 fps3 zz sF3 r3 dz => ?_
                obtain ⟨p3, a3, _⟩ := p2.stay r3 sF3
                obtain ⟨px3, ax3, ox3⟩ := px2.stay r3 sF3
                cases dz
                obtain ⟨v3, fp3, vp3, _, ow3, sub3, nd3, wand⟩ := ow_path p3.ow ((hp c).kd e1) hx p3.nd
                obtain ⟨v2, _, vq, vq2, _, _, _, _⟩ := ow_path p2.ow ((hp c).kd e1) hx p2.nd
                have ev : v = v3 := by rw [VP.fun vp vq]; exact VP.fun (vq2 H3 a3) vp3
                subst ev
                obtain ⟨a, ys, es, fs, rfl, e3, ha, rfl, al⟩ := ow3
                cases e3
                refine ⟨a, ys, j, n, rfl, rfl, ha, by rw [al.len.1]; exact hn, ?_⟩
                have hlt := ixN_lt hn
                obtain ⟨dn, hdn⟩ : ∃ dn, xs[n]? = some dn := ⟨_, List.getElem?_eq_getElem hlt⟩
                obtain ⟨xa, u, xb, da, db, fa, fn, fb, rfl, rfl, rfl, l1, l2, h1, h2, h3⟩ := al.split hdn
                have hset : (xa ++ u :: xb).set n vx = xa ++ vx :: xb := by rw [List.set_append_right _ _ (by omega), l1]; simp
                have hsetd : (da ++ dn :: db).set n x = da ++ x :: db := by rw [List.set_append_right _ _ (by omega), l2]; simp
                rw [hset]
                rw [hsetd] at hs
                -- the new thing stands apart
                have hax : ∀ q ∈ fpx, q ∉ fps1 i := fun q hq => (hfx q hq).2.2.2 i
                have nd3' := nd3
                rw [List.flatten_append, List.flatten_cons, List.nodup_cons, List.nodup_append, List.nodup_append] at nd3'
                obtain ⟨na, nda, ⟨ndn, ndb, dnb⟩, dab⟩ := nd3'
                have ina : a ∈ fps1 i := sub3 a (by simp)
                have inA : ∀ q ∈ fa.flatten, q ∈ fps1 i := fun q hq => sub3 q (by rw [List.flatten_append]; exact List.mem_cons_of_mem _ (List.mem_append.mpr (.inl hq)))
                have inB : ∀ q ∈ fb.flatten, q ∈ fps1 i := fun q hq => sub3 q (by rw [List.flatten_append, List.flatten_cons]; exact List.mem_cons_of_mem _ (List.mem_append.mpr (.inr (List.mem_append.mpr (.inr hq)))))
                have upA : ∀ q ∈ fa.flatten, upd H3 a (.lst (xa ++ vx :: xb)) q = H3 q := fun q hq => upd_ne fun y => na (by rw [← y]; exact List.mem_append.mpr (.inl hq))
                have upB : ∀ q ∈ fb.flatten, upd H3 a (.lst (xa ++ vx :: xb)) q = H3 q := fun q hq => upd_ne fun y => na (by rw [← y]; exact List.mem_append.mpr (.inr (List.mem_append.mpr (.inr hq))))
                have upX : ∀ q ∈ fpx, upd H3 a (.lst (xa ++ vx :: xb)) q = H3 q := fun q hq => upd_ne fun y => hax q hq (by rw [y]; exact ina)
                obtain ⟨fp4, d4, es4, ow4, nd4, sub4⟩ := wand F3 (upd H3 a (.lst (xa ++ vx :: xb))) (.list (da ++ x :: db)) (a :: (fa ++ fpx :: fb).flatten) (Same.refl _) (fun q hq hn' => upd_ne fun y => hn' (by simp [y]))
                  ⟨a, _, _, _, rfl, rfl, upd_same, rfl, (h1.imp fun _ _ cc hc o => ow_mono (Same.refl _) o fun q hq => upA q (List.mem_flatten.mpr ⟨cc, hc, hq⟩)).append (.cons (ow_mono (Same.refl _) px3.ow upX) (h3.imp fun _ _ cc hc o => ow_mono (Same.refl _) o fun q hq => upB q (List.mem_flatten.mpr ⟨cc, hc, hq⟩)))⟩
                  (fun q hq hq' => by
                    rw [List.flatten_append, List.flatten_cons] at hq ⊢
                    rcases List.mem_cons.mp hq with y | hq
                    · rw [y]; exact List.mem_cons_self
                    · refine List.mem_cons_of_mem _ ?_
                      rcases List.mem_append.mp hq with hq | hq
                      · exact List.mem_append.mpr (.inl hq)
                      · rcases List.mem_append.mp hq with hq | hq
                        · exact absurd hq' (hax q hq)
                        · exact List.mem_append.mpr (.inr (List.mem_append.mpr (.inr hq))))
                  (by
                    rw [List.flatten_append, List.flatten_cons, List.nodup_cons, List.nodup_append, List.nodup_append]
                    refine ⟨fun y => ?_, nda, ⟨ndx, ndb, fun q hq q' hq' eq => hax q hq (by rw [eq]; exact inB q' hq')⟩, fun q hq q' hq' eq => ?_⟩
                    · rcases List.mem_append.mp y with y | y
                      · exact na (List.mem_append.mpr (.inl y))
                      · rcases List.mem_append.mp y with y | y
                        · exact hax a y ina
                        · exact na (List.mem_append.mpr (.inr (List.mem_append.mpr (.inr y))))
                    · subst eq
                      rcases List.mem_append.mp hq' with y | y
                      · exact hax q y (inA q hq)
                      · exact dab q hq q (List.mem_append.mpr (.inr y)) rfl)
                rw [hs] at es4
                cases es4
                refine p F3 _ σ _ ((sF.trans sF2).trans sF3) (r1.putback hw r3 ina ow4 nd4 fun q hq => ?_)
                rcases sub4 q hq with h | h
                · rw [List.flatten_append, List.flatten_cons] at h
                  rcases List.mem_cons.mp h with y | h
                  · rw [y]; exact .inl ina
                  · rcases List.mem_append.mp h with h | h
                    · exact .inl (inA q h)
                    · rcases List.mem_append.mp h with h | h
                      · exact .inr ⟨(px3.pr q h).1, (px3.pr q h).2.1, (hfx q h).2.2.1, ox3 q h⟩
                      · exact .inl (inB q h)
                · exact .inl h.1
              · exact p.elim
            · exact p.elim
          · exact p.elim
    · exact p.elim⟩
end
end Z
set_option Elab.async false
set_option linter.all false
set_option maxRecDepth 100000
namespace Z
open PySem L2
section
variable {K : Fg} {c : Ctx} {Ob O O' : List Kd} {te tp : TE} {m : M D}
/-- x..append(v), v of one's own -/
theorem c_appPO {k1 : Kd} {mp : D → M (List Sel)} (i : Nat) (hp : ∀ c', DPl K c' O i (unpm (O.getD i .sh)) tp mp (.ls k1)) (hm : ∀ c', DO K c' O k1 te m) : DC K c Ob O (tDrop (tBM K "list" rAppend tp (tCons te tNil))) (sAppP i mp m) O := ⟨fun {F H σ fps ds} r E p => by
  unfold sAppP at p
  split at p
  · rename_i d hd
    obtain ⟨w, hw, rf, pt⟩ := r.pt i hd
    cases e1 : mp d (ds.set i none) with
    | no => rw [e1] at p; exact p.elim
    | ok π s2 =>
      rw [e1] at p
      dsimp only at p
      cases e2 : m s2 with
      | no => rw [e2] at p; exact p.elim
      | ok x s3 =>
        rw [e2] at p
        dsimp only at p
        split at p
        · rename_i xs hx
          split at p
          · rename_i hz
            split at p
            · rename_i d' hs
              refine (hp _).run rf e1 hw pt (by rw [hx]; rfl) _ fun F2 H2 fps2 v sF2 r2 vp => ?_
              obtain ⟨p2, a2, _⟩ := pt.stay r2 sF2
              obtain ⟨v2, fp2, vq, vq2, ow2, _, _, _⟩ := ow_path p2.ow ((hp c).kd e1) hx p2.nd
              have ev2 : v = v2 := VP.fun vp vq
              subst ev2
              obtain ⟨a0, ys0, es0, fs0, rfl, _, ha0, _, _⟩ := ow2
              refine ⟨.inl ⟨rfl, ys0, SqL.of ha0⟩, ?_⟩
              refine (hm _).run r2 e2 _ fun F3 H3 fps3 vx fpx sF3 r3 owx hfx ndx => ?_
              obtain ⟨p3, a3, o3⟩ := p2.stay r3 sF3
              obtain ⟨v3, fp3, vp3, _, ow3, sub3, nd3, wand⟩ := ow_path p3.ow ((hp c).kd e1) hx p3.nd
              have ev : V.ref a0 = v3 := VP.fun (vq2 H3 a3) vp3
              subst ev
              obtain ⟨a, ys, es, fs, e4, e3, ha, rfl, al⟩ := ow3
              cases e3
              cases e4
              refine ⟨a0, ys, vx, rfl, rfl, ha, by rw [al.len.1]; exact of_decide_eq_true hz, ?_⟩
              rw [List.nodup_cons] at nd3
              have ina : a0 ∈ fps i := sub3 a0 (by simp)
              have inF : ∀ q ∈ fs.flatten, q ∈ fps i := fun q hq => sub3 q (List.mem_cons_of_mem _ hq)
              -- what is new there stands apart from what was kept
              have hax : ∀ q ∈ fpx, q ∉ fps i := fun q hq hq' => by
                have h3 := (hfx q hq).2.2.1
                have h4 := (pt.pr q hq').2.2.2.1
                rw [h3] at h4
                exact (pt.pr q hq').2.1 h4.symm
              have upF : ∀ q ∈ fs.flatten, upd H3 a0 (.lst (ys ++ [vx])) q = H3 q := fun q hq => upd_ne fun y => nd3.1 (by rw [← y]; exact hq)
              have upX : ∀ q ∈ fpx, upd H3 a0 (.lst (ys ++ [vx])) q = H3 q := fun q hq => upd_ne fun y => hax q hq (by rw [y]; exact ina)
              have efl : (fs ++ [fpx]).flatten = fs.flatten ++ fpx := by simp
              obtain ⟨fp4, d4, es4, ow4, nd4, sub4⟩ := wand F3 (upd H3 a0 (.lst (ys ++ [vx]))) (.list (xs ++ [x])) (a0 :: (fs ++ [fpx]).flatten) (Same.refl _) (fun q hq hn' => upd_ne fun y => hn' (by simp [y]))
                ⟨a0, _, _, _, rfl, rfl, upd_same, rfl, (al.imp fun _ _ cc hc o => ow_mono (Same.refl _) o fun q hq => upF q (List.mem_flatten.mpr ⟨cc, hc, hq⟩)).append (.cons (ow_mono (Same.refl _) owx upX) .nil)⟩
                (fun q hq hq' => by
                  rw [efl] at hq
                  rcases List.mem_cons.mp hq with y | hq
                  · rw [y]; exact List.mem_cons_self
                  · rcases List.mem_append.mp hq with hq | hq
                    · exact List.mem_cons_of_mem _ hq
                    · exact absurd hq' (hax q hq))
                (by
                  rw [efl, List.nodup_cons, List.nodup_append]
                  refine ⟨fun y => ?_, nd3.2, ndx, fun q hq q' hq' eq => hax q' hq' (by rw [← eq]; exact inF q hq)⟩
                  rcases List.mem_append.mp y with y | y
                  · exact nd3.1 y
                  · exact hax a0 y ina)
              rw [hs] at es4
              cases es4
              refine p F3 _ σ _ (sF2.trans sF3) (r.putback hw r3 ina ow4 nd4 fun q hq => ?_)
              rcases sub4 q hq with h | h
              · rw [efl] at h
                rcases List.mem_cons.mp h with y | h
                · rw [y]; exact .inl ina
                · rcases List.mem_append.mp h with h | h
                  · exact .inl (inF q h)
                  · obtain ⟨b1, b2, b3, b4⟩ := hfx q h
                    refine .inr ⟨b1, b2, ?_, b4⟩
                    rcases from_none b3 with ⟨j, hj, hp'⟩ | hb
                    · rcases (r.off j q (asd_sub hj).2).2.2 with h | ⟨_, h⟩
                      · exact h
                      · rw [hp'] at h; cases h
                    · exact r.live q hb
              · exact .inl h.1
            · exact p.elim
          · exact p.elim
        · exact p.elim
  · exact p.elim⟩
end
/-! ### what these come to -/
section
variable {α : Type} {s : DS} {Nx Bk Ct : DS → Prop} {Ex : Xc → DS → Prop} {Rt : D → DS → Prop}
theorem run_putP_0 {i : Nat} {mp : D → M (List Sel)} {me m : M D} : Run0 (sPutP i mp me m) s Nx Rt Bk Ct Ex = Ev0 m s fun v s1 => So0 (look s1 i) fun d => Ev0 (mp d) (s1.set i none) fun π s2 => Ev0 me s2 fun z s3 => So0 (iof z) fun j => So0 (getP π d) fun x => So0 (lof x) fun xs => So0 (ixN xs.length j) fun n => So0 (setP π d (.list (xs.set n v))) fun d' => Nx (s3.set i (some d')) := by
  unfold Run0 sPutP look Ev0
  cases m s with
  | no => rfl
  | ok v s1 =>
    simp only
    cases s1[i]? with
    | none => rfl
    | some o =>
      cases o with
      | none => rfl
      | some d =>
        simp only [so_some_0]
        cases mp d (s1.set i none) with
        | no => rfl
        | ok π s2 =>
          simp only
          cases me s2 with
          | no => rfl
          | ok z s3 =>
            simp only
            cases z with
            | int j =>
              simp only [iof, so_some_0]
              cases getP π d with
              | none => rfl
              | some x =>
                simp only [so_some_0]
                cases x with
                | list xs =>
                  simp only [lof, so_some_0]
                  cases ixN xs.length j with
                  | none => rfl
                  | some n =>
                    simp only [so_some_0]
                    cases setP π d (.list (xs.set n v)) <;> rfl
                | _ => rfl
            | _ => rfl
theorem run_appP_0 {i : Nat} {mp : D → M (List Sel)} {m : M D} : Run0 (sAppP i mp m) s Nx Rt Bk Ct Ex = So0 (look s i) fun d => Ev0 (mp d) (s.set i none) fun π s2 => Ev0 m s2 fun v s3 => So0 (getP π d) fun x => So0 (lof x) fun xs => decide (xs.length < sizeLine) = true ∧ So0 (setP π d (.list (xs ++ [v]))) fun d' => Nx (s3.set i (some d')) := by
  unfold Run0 sAppP look Ev0
  cases s[i]? with
  | none => rfl
  | some o =>
    cases o with
    | none => rfl
    | some d =>
      simp only [so_some_0]
      cases mp d (s.set i none) with
      | no => rfl
      | ok π s2 =>
        simp only
        cases m s2 with
        | no => rfl
        | ok v s3 =>
          simp only
          cases getP π d with
          | none => rfl
          | some x =>
            simp only [so_some_0]
            cases x with
            | list xs =>
              simp only [lof, so_some_0]
              by_cases hc : decide (xs.length < sizeLine) = true
              · simp only [hc, if_true, true_and]
                cases setP π d (.list (xs ++ [v])) <;> rfl
              · simp only [hc, if_false, false_and, Bool.false_eq_true]
            | _ => rfl
theorem ev_plR_0 {d : D} {Q : List Sel → DS → Prop} : Ev0 (plR d) s Q = Q [] s := nr rfl
def ixP (π : List Sel) (d : D) (z : D) : Option (List Sel) := match z, getP π d with
  | .int j, some (.list xs) => (ixN xs.length j).map fun n => π ++ [.ix n]
  | _, _ => none
theorem ev_plIx_0 {d : D} {mp : D → M (List Sel)} {me : M D} {Q : List Sel → DS → Prop} : Ev0 (plIx mp me d) s Q = Ev0 (mp d) s fun π s1 => Ev0 me s1 fun z s2 => So0 (ixP π d z) fun ρ => Q ρ s2 := by
  unfold plIx
  rw [ev_bnd_0]; refine ev_ext_0 fun π s1 => ?_
  rw [ev_bnd_0]; refine ev_ext_0 fun z s2 => ?_
  rw [ev_opt_0]
  rfl
theorem ev_fz_0 {i : Nat} {js : List Nat} {m : M D} {Q : D → DS → Prop} : Ev0 (mFz i js m) s Q = So0 (look s i) fun _ => Ev0 m s fun d s' => (noL d && fzOk js s') = true ∧ Q d (mix s s' js) := by
  unfold Ev0 mFz look
  cases s[i]? with
  | none => rfl
  | some o =>
    cases o with
    | none => rfl
    | some x =>
      simp only [so_some_0]
      cases m s with
      | no => rfl
      | ok d s' =>
        simp only
        by_cases hc : (noL d && fzOk js s') = true
        · simp only [hc, if_true, true_and]
        · simp only [hc, if_false, false_and, Bool.false_eq_true]
theorem ev_rep_0 {a b : M D} {Q : D → DS → Prop} : Ev0 (mRep a b) s Q = Ev0 a s fun x s1 => Ev0 b s1 fun y s2 => So0 (lof x) fun xs => So0 (iof y) fun k => repC xs.length k = true ∧ Q (.list (List.replicate k.toNat xs).flatten) s2 := by
  unfold mRep
  rw [ev_bnd_0]; refine ev_ext_0 fun x s1 => ?_
  rw [ev_bnd_0]; refine ev_ext_0 fun y s2 => ?_
  rw [ev_opt_0]
  cases x with
  | list xs =>
    cases y with
    | int k =>
      simp only [lof, iof, so_some_0]
      rw [so_if_0]
      rfl
    | _ => rfl
  | _ => cases y <;> rfl
theorem run_putP {i : Nat} {mp : D → M (List Sel)} {me m : M D} : Run (sPutP i mp me m) s Nx Rt Bk Ct Ex = Ev m s fun v s1 => So (look s1 i) fun d => Ev (mp d) (s1.set i none) fun π s2 => Ev me s2 fun z s3 => So (iof z) fun j => So (getP π d) fun x => So (lof x) fun xs => So (ixN xs.length j) fun n => So (setP π d (.list (xs.set n v))) fun d' => Nx (s3.set i (some d')) := by with_unfolding_all exact run_putP_0
theorem run_appP {i : Nat} {mp : D → M (List Sel)} {m : M D} : Run (sAppP i mp m) s Nx Rt Bk Ct Ex = So (look s i) fun d => Ev (mp d) (s.set i none) fun π s2 => Ev m s2 fun v s3 => So (getP π d) fun x => So (lof x) fun xs => decide (xs.length < sizeLine) = true ∧ So (setP π d (.list (xs ++ [v]))) fun d' => Nx (s3.set i (some d')) := by with_unfolding_all exact run_appP_0
theorem ev_plR {d : D} {Q : List Sel → DS → Prop} : Ev (plR d) s Q = Q [] s := by with_unfolding_all exact ev_plR_0
theorem ev_plIx {d : D} {mp : D → M (List Sel)} {me : M D} {Q : List Sel → DS → Prop} : Ev (plIx mp me d) s Q = Ev (mp d) s fun π s1 => Ev me s1 fun z s2 => So (ixP π d z) fun ρ => Q ρ s2 := by with_unfolding_all exact ev_plIx_0
theorem ev_fz {i : Nat} {js : List Nat} {m : M D} {Q : D → DS → Prop} : Ev (mFz i js m) s Q = So (look s i) fun _ => Ev m s fun d s' => (noL d && fzOk js s') = true ∧ Q d (mix s s' js) := by with_unfolding_all exact ev_fz_0
theorem ev_rep {a b : M D} {Q : D → DS → Prop} : Ev (mRep a b) s Q = Ev a s fun x s1 => Ev b s1 fun y s2 => So (lof x) fun xs => So (iof y) fun k => repC xs.length k = true ∧ Q (.list (List.replicate k.toNat xs).flatten) s2 := by with_unfolding_all exact ev_rep_0
theorem so_listOfL {l : List D} {Q : D → Prop} : So (listOfD [.list l]) Q = Q (.list l) := by with_unfolding_all exact nr rfl
theorem so_listOfT {l : List D} {Q : D → Prop} : So (listOfD [.tuple l]) Q = Q (.list l) := by with_unfolding_all exact nr rfl
theorem mx0 {s s' : DS} : mix s s' [] = s := nr rfl
theorem mxC {s s' : DS} {j : Nat} {js : List Nat} : mix s s' (j :: js) = (mix s s' js).set j (oat s' j) := nr rfl
theorem fz0 {s : DS} : fzOk [] s = true := nr rfl
theorem noL_i {i : Int} : noL (.int i) = true := nr rfl
theorem noL_n : noL .none = true := nr rfl
theorem noL_b {b : Bool} : noL (.bool b) = true := nr rfl
theorem noL_s {b : Str} : noL (.str b) = true := nr rfl
theorem noL_t {l : List D} : noL (.tuple l) = noLs l := nr (by simp [noL])
theorem noLs_n : noLs [] = true := nr (by simp [noLs])
theorem noLs_c {x : D} {l : List D} : noLs (x :: l) = (noL x && noLs l) := nr (by simp [noLs])
theorem getP0 {d : D} : getP [] d = some d := nr rfl
theorem setP0 {d x : D} : setP [] d x = some x := nr rfl
/-- one step into a list -/
theorem so_ixP0 {l : List D} {j : Int} {Q : List Sel → Prop} : So (ixP [] (.list l) (.int j)) Q = So (ixN l.length j) fun n => Q [.ix n] := by
  show So ((ixN l.length j).map fun n => [] ++ [Sel.ix n]) Q = _
  rw [so_map]; rfl
theorem so_getP1 {l : List D} {n : Nat} {Q : D → Prop} : So (getP [.ix n] (.list l)) Q = So l[n]? Q := by
  have : getP [.ix n] (.list l) = l[n]? := by
    show (match l[n]? with | some d => getP [] d | none => none) = _
    cases l[n]? <;> rfl
  rw [this]
theorem so_setP1 {l : List D} {n : Nat} {x : D} {Q : D → Prop} (h : n < l.length) (q : Q (.list (l.set n x))) : So (setP [.ix n] (.list l) x) Q := by
  have : setP [.ix n] (.list l) x = some (.list (l.set n x)) := by
    show (match l[n]? with | some d => (setP [] d x).map fun d' => PyData.list (l.set n d') | none => none) = _
    rw [List.getElem?_eq_getElem h]
    rfl
  rw [this, so_some]
  exact q
end
end Z
namespace Z
open PySem L2
theorem o_lst0 {K : Fg} {c : Ctx} {O : List Kd} {k : Kd} : DO K c O (.ls k) (tLst tNil) (mLst mNil) := ⟨fun {F H σ fps ds ds' d} rl e Q q => by
  obtain ⟨xs, s1, e1, g1⟩ := bnd_ok e
  cases e1
  obtain ⟨g2, z⟩ := opt_ok g1
  subst z
  split at g2
  · rename_i hf
    cases g2
    refine ⟨fits_of hf, fun p hp => ?_⟩
    obtain ⟨hF, h0, hq⟩ := rl.fresh hp
    refine q F _ fps (.ref p) [p] (Same.refl _) (rl.allocO hp _) ⟨p, [], [], [], rfl, rfl, upd_same, rfl, .nil⟩ (fun q' hq' => ?_) (by simp)
    have : q' = p := by simpa using hq'
    subst this
    exact ⟨hF, by rw [upd_same]; simp, h0, hq⟩
  · cases g2⟩
end Z
namespace Z
open PySem L2
def flatO : Option D → Bool
  | some d => flatOwn d
  | none => true
theorem fzC {s : DS} {j : Nat} {js : List Nat} : fzOk (j :: js) s = (flatO (oat s j) && fzOk js s) := by
  unfold fzOk
  rw [List.all_cons]
  congr 1
  unfold oat
  cases s[j]? with
  | none => rfl
  | some o => cases o <;> rfl
theorem flO {d : D} : flatO (some d) = flatOwn d := nr rfl
theorem flN : flatO none = true := nr rfl
end Z
namespace Z
open PySem L2
theorem so_listL {l : List D} {Q : D → Prop} : So (listD [.list l]) Q = Q (.list l) := by with_unfolding_all exact nr rfl
theorem so_listT {l : List D} {Q : D → Prop} : So (listD [.tuple l]) Q = Q (.list l) := by with_unfolding_all exact nr rfl
theorem so_tupL {l : List D} {Q : D → Prop} : So (tupleD [.list l]) Q = Q (.tuple l) := by with_unfolding_all exact nr rfl
theorem so_tupT {l : List D} {Q : D → Prop} : So (tupleD [.tuple l]) Q = Q (.tuple l) := by with_unfolding_all exact nr rfl
end Z
set_option Elab.async false
set_option linter.all false
set_option maxRecDepth 100000
namespace Z
open PySem L2 PyProof.Rows
/-! ### a dict of the module with ints alone -/
def entB : List DictEntry → List (Int × Int) → Bool
  | [], [] => true
  | ⟨h, .int k _, .int v _⟩ :: es, (k', v') :: r => decide (h = hashInt k) && (decide (k = k') && (decide (v = v') && entB es r))
  | _, _ => false
def kintB (K : Fg) (a : Addr) (kvs : List (Int × Int)) : Bool := (match K.lookup a with
  | some ⟨.type c, none, .dict es _, sl⟩ => decide (c = "dict") && (decide (sl = #[]) && entB es.toList kvs)
  | _ => false) && (!(a == sysModules) && decide (kvs.map (·.1)).Nodup)
structure KInt (K : Fg) (a : Addr) (kvs : List (Int × Int)) : Prop where
  ok : kintB K a kvs = true
theorem entB_ok {P : Program} {w : World} : ∀ {es : List DictEntry} {kvs : List (Int × Int)}, entB es kvs = true → ∃ vs : List (Key × Value), Pairs (mixKind P w) es vs ∧ (∀ e ∈ es, ∃ k, (mixKind P w).is k e.key = true ∧ e.hash = (mixKind P w).hash k) ∧ vs.map (·.1) = kvs.map (fun p => Sum.inl p.1) ∧ ∀ i : Int, RelO ((kvs.lookup i).map V.int) (valueAt vs (.inl i))
  | [], [], _ => ⟨[], .nil, fun e h => (by cases h), rfl, fun i => True.intro⟩
  | [], _ :: _, h => by cases h
  | ⟨hh, kk, vv⟩ :: es, [], h => by
    cases kk <;> cases vv <;> cases h
  | ⟨hh, kk, vv⟩ :: es, (k', v') :: r, h => by
    cases kk with
    | int k t =>
      cases vv with
      | int v u =>
        unfold entB at h
        rw [Bool.and_eq_true, Bool.and_eq_true, Bool.and_eq_true] at h
        obtain ⟨h1, h2, h3, h4⟩ := h
        have h1 : hh = hashInt k := of_decide_eq_true h1
        have h2 : k = k' := of_decide_eq_true h2
        have h3 : v = v' := of_decide_eq_true h3
        subst h1 h2 h3
        obtain ⟨vs, p, ks, em, rv⟩ := entB_ok (P := P) (w := w) h4
        refine ⟨(.inl k, .int v u) :: vs, .cons (mixKind_int P w k t) rfl p, fun e he => ?_, by simp [em], fun i => ?_⟩
        · rcases List.mem_cons.mp he with rfl | he
          · exact ⟨.inl k, mixKind_int P w k t, rfl⟩
          · exact ks e he
        · rw [List.lookup_cons]
          unfold valueAt
          rw [List.find?_cons]
          by_cases z : i = k
          · subst z
            simp only [beq_self_eq_true]
            simp only [decide_true]
            exact ⟨u, rfl⟩
          · have e1 : (i == k) = false := by simpa using z
            have e2 : decide ((Sum.inl k : Key) = Sum.inl i) = false := decide_eq_false fun q => z (Sum.inl.inj q).symm
            simp only [e1, e2]
            exact rv i
      | _ => cases h
    | _ => cases vv <;> cases h
theorem KInt.dict {K : Fg} {a : Addr} {kvs : List (Int × Int)} (x : KInt K a kvs) {P : Program} {w : World} {h : Heap} (X : K.In h) : (a == sysModules) = false ∧ ∃ vs : List (Key × Value), h.DictOf (mixKind P w) a vs ∧ ∀ i : Int, RelO ((kvs.lookup i).map V.int) (valueAt vs (.inl i)) := by
  have ok := x.ok
  unfold kintB at ok
  rw [Bool.and_eq_true, Bool.and_eq_true] at ok
  obtain ⟨h1, h2, h3⟩ := ok
  refine ⟨by simpa using h2, ?_⟩
  cases q : K.lookup a with
  | none => rw [q] at h1; cases h1
  | some o =>
    rw [q] at h1
    obtain ⟨oc, od, dt, sl⟩ := o
    cases oc with
    | type c =>
      cases od with
      | none =>
        cases dt with
        | dict es ep =>
          dsimp only at h1
          rw [Bool.and_eq_true, Bool.and_eq_true] at h1
          obtain ⟨e1, e2, e3⟩ := h1
          have e1 : c = "dict" := of_decide_eq_true e1
          have e2 : sl = #[] := of_decide_eq_true e2
          subst e1 e2
          obtain ⟨vs, p, ks, em, rv⟩ := entB_ok (P := P) (w := w) e3
          refine ⟨vs, ⟨_, es, ep, X _ _ q, ⟨rfl, rfl, rfl⟩, rfl, fun e he => ks e (by simpa using he), p, ?_⟩, rv⟩
          rw [em]
          have nd : (kvs.map (·.1)).Nodup := of_decide_eq_true h3
          have : kvs.map (fun p => (Sum.inl p.1 : Key)) = (kvs.map (·.1)).map Sum.inl := by rw [List.map_map]; rfl
          rw [this]
          exact List.Pairwise.map _ (fun a b (hne : a ≠ b) (z : (Sum.inl a : Key) = Sum.inl b) => hne (Sum.inl.inj z)) nd
        | _ => cases h1
      | some d => cases dt <;> cases h1
    | _ => cases od <;> cases dt <;> cases h1
def tKGet (kvs : List (Int × Int)) (te : TE) : TE := fun σ H Q => te σ H fun y H1 => ∃ i v, y = .int i ∧ kvs.lookup i = some v ∧ Q (.int v) H1
def tKIn (kvs : List (Int × Int)) (neg : Bool) (te : TE) : TE := fun σ H Q => te σ H fun y H1 => ∃ i, y = .int i ∧ Q (.bl (neg.xor (kvs.lookup i).isSome)) H1
section
variable {X : Cx} {a : Addr} {kvs : List (Int × Int)} {x : Str} {p pos : Pos} {e : Expr} {te : TE}
theorem pe_kget (hg : Gl X x) (hm : X.mg x = some (.ref a)) (hK : KInt X.K a kvs) (he : PE X e te) (hs : NoSl e) (hd : (x == ("__debug__" : Str)) = false := by decide) : PE X (.Subscript (.Name x p) e pos) (tKGet kvs te) := by
  refine ⟨fun pins s σ H Q I h => ?_⟩
  have ho : PE X (.Name x p) (tC (.ref a)) := pe_glob hg hm rfl hd
  refine subD_of PySem.F.slot_dict_getitem.lookup hs (thn (ho.run pins s σ H (fun x1 H1 => x1 = .ref a ∧ H1 = H) I ⟨rfl, rfl⟩) fun u s1 ⟨x1, H1, I1, rx, ex, eH⟩ => ?_)
  subst ex eH
  obtain rfl : u = Value.ref a := rx
  refine thn (he.run pins s1 σ H1 _ I1 h) fun iv s2 ⟨y, H2, I2, ry, i, v, ey, l, q2⟩ => ?_
  subst ey
  obtain ⟨hd, vs, dd, rv⟩ := hK.dict (P := X.prog) (w := X.w) I2.kIn
  have r := rv i
  rw [l] at r
  obtain ⟨w', hw, rw'⟩ := RelO.some_of r
  exact ⟨dd.mapOf.typeIs, wpAny_getItem_of (kV_is (k := .inl i) ry) dd.mapOf hw ⟨.int v, H2, I2.tok _, rw', q2⟩⟩
theorem pc_kin (hg : Gl X x) (hm : X.mg x = some (.ref a)) (hK : KInt X.K a kvs) (he : PE X e te) (hd : (x == ("__debug__" : Str)) = false := by decide) : PC X .In e (.Name x p) (tKIn kvs false te) := by
  refine ⟨fun pins s σ H Q I h => ?_⟩
  refine thn (he.run pins s σ H _ I h) fun iv s1 ⟨y, H1, I1, ry, i, ey, q1⟩ => ?_
  subst ey
  have ho : PE X (.Name x p) (tC (.ref a)) := pe_glob hg hm rfl hd
  refine thn (ho.run pins s1 σ H1 (fun x1 H2 => x1 = .ref a ∧ H2 = H1) I1 ⟨rfl, rfl⟩) fun u s2 ⟨x1, H2, I2, rx, ex, eH⟩ => ?_
  subst ex eH
  obtain rfl : u = Value.ref a := rx
  obtain ⟨hd, vs, dd, rv⟩ := hK.dict (P := X.prog) (w := X.w) I2.kIn
  refine wpAny_in_of (kV_is (k := .inl i) ry) hd dd.mapOf ⟨.bl (kvs.lookup i).isSome, H2, I2.tok _, ?_, by simpa using q1⟩
  rw [← (rv i).isSome_eq, Option.isSome_map]
  rfl
theorem pc_knotin (hg : Gl X x) (hm : X.mg x = some (.ref a)) (hK : KInt X.K a kvs) (he : PE X e te) (hd : (x == ("__debug__" : Str)) = false := by decide) : PC X .NotIn e (.Name x p) (tKIn kvs true te) := by
  refine ⟨fun pins s σ H Q I h => ?_⟩
  refine thn (he.run pins s σ H _ I h) fun iv s1 ⟨y, H1, I1, ry, i, ey, q1⟩ => ?_
  subst ey
  have ho : PE X (.Name x p) (tC (.ref a)) := pe_glob hg hm rfl hd
  refine thn (ho.run pins s1 σ H1 (fun x1 H2 => x1 = .ref a ∧ H2 = H1) I1 ⟨rfl, rfl⟩) fun u s2 ⟨x1, H2, I2, rx, ex, eH⟩ => ?_
  subst ex eH
  obtain rfl : u = Value.ref a := rx
  obtain ⟨hd, vs, dd, rv⟩ := hK.dict (P := X.prog) (w := X.w) I2.kIn
  refine wpAny_notIn_of (kV_is (k := .inl i) ry) hd dd.mapOf ⟨.bl (!(kvs.lookup i).isSome), H2, I2.tok _, ?_, by simpa using q1⟩
  rw [← (rv i).isSome_eq, Option.isSome_map]
  rfl
end
def kgetD (kvs : List (Int × Int)) : D → Option D
  | .int i => (kvs.lookup i).map .int
  | _ => none
def kinD (kvs : List (Int × Int)) (neg : Bool) : D → Option D
  | .int i => some (.bool (neg.xor (kvs.lookup i).isSome))
  | _ => none
section
variable {K : Fg} {c : Ctx} {O : List Kd} {te : TE} {m : M D} {kvs : List (Int × Int)} {neg : Bool}
theorem un_val {f : D → Option D} {m : M D} {ds ds' : DS} {d : D} (e : mUn f (mV m) ds = .ok d ds') : ∃ x, m ds = .ok x ds' ∧ f x = some d := by
  obtain ⟨x, s1, e1, g2⟩ := bnd_ok e
  obtain ⟨dx, s2, e3, g3⟩ := bnd_ok e1
  cases g3
  dsimp only [res] at g2
  obtain ⟨g4, z⟩ := opt_ok g2
  subst z
  exact ⟨dx, e3, g4⟩
theorem d_kget (h : DE K c O te m) : DE K c O (tKGet kvs te) (mUn (kgetD kvs) (mV m)) := ⟨fun {F H σ fps ds ds' d} rl e Q q => by
  obtain ⟨x, e1, e2⟩ := un_val e
  refine h.run rl e1 _ fun F1 H1 fps1 v sF r1 dp => ?_
  cases x with
  | int i =>
    cases dp
    have e2 : (kvs.lookup i).map PyData.int = some d := e2
    cases z : kvs.lookup i with
    | none => rw [z] at e2; cases e2
    | some v => rw [z] at e2; cases e2; exact ⟨i, v, rfl, z, q F1 H1 fps1 _ sF r1 (.int _)⟩
  | _ => cases e2⟩
theorem d_kin (h : DE K c O te m) : DE K c O (tKIn kvs neg te) (mUn (kinD kvs neg) (mV m)) := ⟨fun {F H σ fps ds ds' d} rl e Q q => by
  obtain ⟨x, e1, e2⟩ := un_val e
  refine h.run rl e1 _ fun F1 H1 fps1 v sF r1 dp => ?_
  cases x with
  | int i => cases dp; cases e2; exact ⟨i, rfl, q F1 H1 fps1 _ sF r1 (.bl _)⟩
  | _ => cases e2⟩
theorem so_kget {i : Int} {Q : D → Prop} : So (kgetD kvs (.int i)) Q = So (kvs.lookup i) fun v => Q (.int v) := by
  show So ((kvs.lookup i).map PyData.int) Q = _
  rw [so_map]
theorem so_kin {i : Int} {Q : D → Prop} : So (kinD kvs neg (.int i)) Q = Q (.bool (neg.xor (kvs.lookup i).isSome)) := by with_unfolding_all exact nr rfl
end
/-! ### the head with one more look -/
def obsE (n : Nat) (fa : List He.Fa) (fn : List He.DefD) (ex : Fg → Bool) (g : Addr → Option Obj) : He.AlD × Bool := (He.obsDG n fa fn g, ex (He.frG g (He.asD g n)))
def hookE (n : Nat) (fa : List He.Fa) (fn : List He.DefD) (ex : Fg → Bool) : PySem.W.Hook where
  α := He.AlD × Bool
  obs := fun s => obsE n fa fn ex s.heap.get?
  val := fun _ => (He.valD fn, true)
  says := fun _ h => ∃ K : Fg, K.In h ∧ He.SaysD fa fn K ∧ ex K = true
  of := fun _ s e => ⟨He.frG s.heap.get? (He.asD s.heap.get? n), He.frG_in, congrArg (fun z : He.AlD × Bool => z.1) e, congrArg (fun z : He.AlD × Bool => z.2) e⟩
  keeps := fun _ _ _ ⟨K, hK, c⟩ k => ⟨K, PySem.W.Frag.In.keeps hK k, c⟩
theorem obsE_eq {n : Nat} {fa : List He.Fa} {fn : List He.DefD} {ex : Fg → Bool} {g : Addr → Option Obj} {s : Shared} (h : ∀ a, g a = s.heap.get? a) : obsE n fa fn ex g = (hookE n fa fn ex).obs s := by
  have e : g = s.heap.get? := funext h
  rw [e]
  rfl
/-- the module's name stands for such a dict -/
def kdB (x : Str) (kvs : List (Int × Int)) (K : Fg) : Bool := kintB K (He.ga K x) kvs
end Z
namespace Z
open PySem L2
/-- a def that is never called so -/
theorem fn_okN {P : Program} {w : World} {K : Fg} {mg : Str → Option Value} {base : Heap} {x : Str} {st : Stmt} {f : Addr} {fd : FuncData} {N xs : List Str} {ps : List Kd} {rk : Kd} {k n m : Nat} (F : FnP K x st f fd) (S : FnScope N xs (defScope st)) (hx : xs.length = ps.length) (_ : n = n) :
    FnOk P w K mg base CX0 k f fd xs (spD K mg (fnD m n rk sNo) ps rk) := by
  have no : ∀ {vs H Q E}, ¬ spD K mg (fnD m n rk sNo) ps rk vs H Q E := fun {vs H Q E} h => by
    obtain ⟨F, fps, args, A, q⟩ := h
    unfold fnD at q
    by_cases z : args.length = n
    · rw [if_pos z] at q; exact q
    · rw [if_neg z] at q; exact q
  exact ⟨fun vs H Q E h => (no h).elim, fun A outer s H args us vs Q E _ _ _ _ h => (no h).elim⟩
end Z
set_option Elab.async false
set_option linter.all false
set_option maxRecDepth 100000
namespace Z
open PySem L2
/-! ### arguments that are slots' own things: changed in place (false), or handed over for good (true) -/
abbrev JS := List (Option (Nat × Bool))
inductive BgA (K : Fg) (F : Hp) (σ : St) : JS → List V → List D → Prop
  | nil : BgA K F σ [] [] []
  | e {v : V} {d : D} {js : JS} {vs : List V} {ds : List D} : Dp K F v d → BgA K F σ js vs ds → BgA K F σ (none :: js) (v :: vs) (d :: ds)
  | s {v : V} {j : Nat} {b : Bool} {js : JS} {vs : List V} {ds : List D} : σ[j]? = some (some v) → BgA K F σ js vs ds → BgA K F σ (some (j, b) :: js) (v :: vs) (.none :: ds)
theorem BgA.mono {K : Fg} {F F' : Hp} {σ : St} (s : Same F F') : ∀ {js : JS} {vs : List V} {ds : List D}, BgA K F σ js vs ds → BgA K F' σ js vs ds
  | _, _, _, .nil => .nil
  | _, _, _, .e h r => .e (dp_mono s h) (r.mono s)
  | _, _, _, .s h r => .s h (r.mono s)
structure DAG (K : Fg) (c : Ctx) (O : List Kd) (js : JS) (t : TA) (m : M (List D)) : Prop where
  run : ∀ {F H : Hp} {σ : St} {fps : Nat → List Addr} {ds ds' : DS} {es : List D}, Rel K c O F H σ fps ds → m ds = .ok es ds' → ∀ Q : List V → Hp → Prop,
    (∀ F' H' fps' vs, Same F F' → Rel K c O F' H' σ fps' ds' → BgA K F' σ js vs es → Q vs H') → t σ H Q
def mAt (j : Nat) : M D := fun s => match s[j]? with
  | some (some _) => .ok .none s
  | _ => .no
section
variable {K : Fg} {c : Ctx} {O : List Kd} {js : JS} {te : TE} {tl : TA} {m : M D} {ml : M (List D)}
theorem dag_nil : DAG K c O [] tNil mNil := ⟨fun r e Q q => by cases e; exact q _ _ _ [] (Same.refl _) r .nil⟩
theorem dag_e (ha : DE K c O te m) (hl : DAG K c O js tl ml) : DAG K c O (none :: js) (tCons te tl) (mCons m ml) := ⟨fun {F H σ fps ds ds' es} rl e Q q => by
  obtain ⟨x, s1, e1, g1⟩ := bnd_ok e
  obtain ⟨xs, s2, e2, g2⟩ := bnd_ok g1
  cases g2
  exact ha.run rl e1 _ fun F1 H1 fps1 v sF r1 dp => hl.run r1 e2 _ fun F2 H2 fps2 vs sF2 r2 al => q F2 H2 fps2 _ (sF.trans sF2) r2 (.e (dp_mono sF2 dp) al)⟩
theorem dag_s (j : Nat) (b : Bool) (hl : DAG K c O js tl ml) : DAG K c O (some (j, b) :: js) (tCons (tVar j) tl) (mCons (mAt j) ml) := ⟨fun {F H σ fps ds ds' es} rl e Q q => by
  obtain ⟨x, s1, e1, g1⟩ := bnd_ok e
  obtain ⟨xs, s2, e2, g2⟩ := bnd_ok g1
  cases g2
  unfold mAt at e1
  split at e1
  · rename_i d hd
    cases e1
    obtain ⟨v, hv, _⟩ := rl.slots j _ hd
    exact ⟨v, hv, hl.run rl e2 _ fun F2 H2 fps2 vs sF2 r2 al => q F2 H2 fps2 _ sF2 r2 (.s hv al)⟩
  · cases e1⟩
end
def fillG (s : DS) : JS → List D → Option (List D)
  | [], [] => some []
  | none :: js, x :: xs => match fillG s js xs with
    | some r => some (x :: r)
    | none => none
  | some (j, _) :: js, _ :: xs => match look s j with
    | some d => match fillG s js xs with
      | some r => some (d :: r)
      | none => none
    | none => none
  | _, _ => none
def backG : JS → List D → DS → DS
  | none :: js, _ :: as, s => backG js as s
  | some (j, false) :: js, a :: as, s => backG js as (s.set j (some a))
  | some (j, true) :: js, _ :: as, s => backG js as (s.set j none)
  | _, _, s => s
inductive JOk (O : List Kd) : List Kd → JS → Prop
  | nil : JOk O [] []
  | e {ps : List Kd} {js : JS} : JOk O ps js → JOk O (.sh :: ps) (none :: js)
  | pm {j : Nat} {k : Kd} {ps : List Kd} {js : JS} : isPm O[j]? = false → O.getD j .sh = k → JOk O ps js → JOk O (.pm k :: ps) (some (j, false) :: js)
  | mv {j : Nat} {k : Kd} {ps : List Kd} {js : JS} : isPm O[j]? = false → O.getD j .sh = k → isPm (some k) = false → JOk O ps js → JOk O (k :: ps) (some (j, true) :: js)
def gl (fps : Nat → List Addr) (js : JS) (i : Nat) : List Addr := match js[i]? with
  | some (some (j, _)) => fps j
  | _ => []
def slG (js : JS) : List Nat := js.filterMap fun o => o.map (·.1)
def posG : JS → Nat → Option (Nat × Bool)
  | [], _ => none
  | none :: js, j => (posG js j).map fun p => (p.1 + 1, p.2)
  | some (l, b) :: js, j => if l = j then some (0, b) else (posG js j).map fun p => (p.1 + 1, p.2)
theorem posG_some : ∀ {js : JS} {j i : Nat} {b : Bool}, posG js j = some (i, b) → js[i]? = some (some (j, b))
  | [], j, i, b, h => by cases h
  | none :: js, j, i, b, h => by
    unfold posG at h
    cases z : posG js j with
    | none => rw [z] at h; cases h
    | some p => rw [z] at h; cases h; exact posG_some (js := js) z
  | some (l, b') :: js, j, i, b, h => by
    unfold posG at h
    by_cases z : l = j
    · rw [if_pos z] at h; cases h; subst z; rfl
    · rw [if_neg z] at h
      cases z : posG js j with
      | none => rw [z] at h; cases h
      | some p => rw [z] at h; cases h; exact posG_some (js := js) z
theorem posG_none : ∀ {js : JS} {j i : Nat} {b : Bool}, posG js j = none → js[i]? ≠ some (some (j, b))
  | [], j, i, b, h => by simp
  | none :: js, j, i, b, h => by
    unfold posG at h
    cases z : posG js j with
    | some p => rw [z] at h; cases h
    | none =>
      cases i with
      | zero => simp
      | succ i => exact posG_none (js := js) z
  | some (l, b') :: js, j, i, b, h => by
    unfold posG at h
    by_cases z : l = j
    · rw [if_pos z] at h; cases h
    · rw [if_neg z] at h
      cases y : posG js j with
      | some p => rw [y] at h; cases h
      | none =>
        cases i with
        | zero => simp; intro h; exact absurd h z
        | succ i => exact posG_none (js := js) y
theorem slG_mem {js : JS} {j i : Nat} {b : Bool} (h : js[i]? = some (some (j, b))) : j ∈ slG js := by
  unfold slG
  exact List.mem_filterMap.mpr ⟨_, List.mem_of_getElem? h, rfl⟩
theorem posG_inj : ∀ {js : JS} {j i i' : Nat} {b b' : Bool}, (slG js).Nodup → js[i]? = some (some (j, b)) → js[i']? = some (some (j, b')) → i = i' ∧ b = b'
  | [], j, i, i', b, b', _, h, _ => by simp at h
  | none :: js, j, i, i', b, b', nd, h, h' => by
    cases i with
    | zero => simp at h
    | succ i =>
      cases i' with
      | zero => simp at h'
      | succ i' =>
        obtain ⟨e, e'⟩ := posG_inj (js := js) (by simpa [slG] using nd) (by simpa using h) (by simpa using h')
        exact ⟨by rw [e], e'⟩
  | some (l, c) :: js, j, i, i', b, b', nd, h, h' => by
    have nd' : l ∉ slG js ∧ (slG js).Nodup := by simpa [slG] using nd
    cases i with
    | zero =>
      have hl : l = j ∧ c = b := by simpa using h
      cases i' with
      | zero =>
        have hl' : l = j ∧ c = b' := by simpa using h'
        exact ⟨rfl, hl.2.symm.trans hl'.2⟩
      | succ i' => exact absurd (slG_mem (js := js) (by simpa using h')) (hl.1 ▸ nd'.1)
    | succ i =>
      cases i' with
      | zero =>
        have hl : l = j ∧ c = b' := by simpa using h'
        exact absurd (slG_mem (js := js) (by simpa using h)) (hl.1 ▸ nd'.1)
      | succ i' =>
        obtain ⟨e, e'⟩ := posG_inj (js := js) nd'.2 (by simpa using h) (by simpa using h')
        exact ⟨by rw [e], e'⟩
theorem posG_at {js : JS} {j i : Nat} {b : Bool} (nd : (slG js).Nodup) (h : js[i]? = some (some (j, b))) : posG js j = some (i, b) := by
  cases z : posG js j with
  | none => exact absurd h (posG_none z)
  | some p =>
    obtain ⟨i', b'⟩ := p
    obtain ⟨e, e'⟩ := posG_inj nd h (posG_some z)
    rw [e, e']
theorem backG_len : ∀ (js : JS) (as : List D) (s : DS), (backG js as s).length = s.length
  | [], _, s => rfl
  | none :: js, [], s => rfl
  | none :: js, _ :: as, s => backG_len js as s
  | some (j, false) :: js, [], s => rfl
  | some (j, true) :: js, [], s => rfl
  | some (j, false) :: js, a :: as, s => by unfold backG; rw [backG_len js as]; exact List.length_set
  | some (j, true) :: js, a :: as, s => by unfold backG; rw [backG_len js as]; exact List.length_set
theorem backG_out : ∀ (js : JS) (as : List D) (s : DS) (j : Nat), posG js j = none → (backG js as s)[j]? = s[j]?
  | [], _, s, j, h => rfl
  | none :: js, [], s, j, h => rfl
  | none :: js, _ :: as, s, j, h => backG_out js as s j (by unfold posG at h; simpa using h)
  | some (l, false) :: js, [], s, j, h => rfl
  | some (l, true) :: js, [], s, j, h => rfl
  | some (l, false) :: js, a :: as, s, j, h => by
    unfold posG at h
    by_cases z : l = j
    · rw [if_pos z] at h; cases h
    · rw [if_neg z] at h
      unfold backG; rw [backG_out js as _ j (by simpa using h)]; exact List.getElem?_set_ne z
  | some (l, true) :: js, a :: as, s, j, h => by
    unfold posG at h
    by_cases z : l = j
    · rw [if_pos z] at h; cases h
    · rw [if_neg z] at h
      unfold backG; rw [backG_out js as _ j (by simpa using h)]; exact List.getElem?_set_ne z
theorem posG_nil {js : JS} {j : Nat} (h : j ∉ slG js) : posG js j = none := by
  cases z : posG js j with
  | none => rfl
  | some p => exact absurd (slG_mem (posG_some (b := p.2) (i := p.1) z)) h
theorem backG_in : ∀ {js : JS} {as : List D} {s : DS} {j i : Nat} {b : Bool}, (slG js).Nodup → as.length = js.length → j < s.length → js[i]? = some (some (j, b)) → (backG js as s)[j]? = some (if b then none else as[i]?)
  | [], _, s, j, i, b, _, _, _, h => by simp at h
  | none :: js, [], s, j, i, b, _, hl, _, h => by simp at hl
  | none :: js, a :: as, s, j, i, b, nd, hl, hj, h => by
    cases i with
    | zero => simp at h
    | succ i => exact backG_in (js := js) (as := as) (by simpa [slG] using nd) (by simpa using hl) hj (by simpa using h)
  | some (l, c) :: js, [], s, j, i, b, _, hl, _, h => by simp at hl
  | some (l, c) :: js, a :: as, s, j, i, b, nd, hl, hj, h => by
    have nd' : l ∉ slG js ∧ (slG js).Nodup := by simpa [slG] using nd
    cases i with
    | zero =>
      have hh : l = j ∧ c = b := by simpa using h
      obtain ⟨rfl, rfl⟩ := hh
      cases c with
      | false => unfold backG; rw [backG_out js as _ l (posG_nil nd'.1), List.getElem?_set_self hj]; rfl
      | true => unfold backG; rw [backG_out js as _ l (posG_nil nd'.1), List.getElem?_set_self hj]; rfl
    | succ i =>
      cases c with
      | false => unfold backG; exact backG_in (js := js) (as := as) nd'.2 (by simpa using hl) (by rw [List.length_set]; exact hj) (by simpa using h)
      | true => unfold backG; exact backG_in (js := js) (as := as) nd'.2 (by simpa using hl) (by rw [List.length_set]; exact hj) (by simpa using h)
section
variable {K : Fg} {c : Ctx} {O ps : List Kd} {F H F' H' : Hp} {σ : St} {fps gps' : Nat → List Addr} {ds : DS}
theorem JOk.len : ∀ {ps : List Kd} {js : JS}, JOk O ps js → js.length = ps.length
  | _, _, .nil => rfl
  | _, _, .e h => by simp [h.len]
  | _, _, .pm _ _ h => by simp [h.len]
  | _, _, .mv _ _ _ h => by simp [h.len]
theorem JOk.at : ∀ {ps : List Kd} {js : JS} {i j : Nat} {b : Bool}, JOk O ps js → js[i]? = some (some (j, b)) → isPm O[j]? = false ∧ isPm ps[i]? = !b ∧ (b = false → ps[i]? = some (.pm (O.getD j .sh)))
  | _, _, i, _, _, .nil, h => by simp at h
  | _, _, i, _, _, .e r, h => by
    cases i with
    | zero => simp at h
    | succ i => simpa using r.at (i := i) (by simpa using h)
  | _, _, i, _, _, .pm h1 h2 r, h => by
    cases i with
    | zero =>
      simp at h
      obtain ⟨rfl, rfl⟩ := h
      exact ⟨h1, rfl, fun _ => by rw [h2]; rfl⟩
    | succ i => simpa using r.at (i := i) (by simpa using h)
  | _, _, i, _, _, .mv h1 h2 h3 r, h => by
    cases i with
    | zero =>
      simp at h
      obtain ⟨rfl, rfl⟩ := h
      exact ⟨h1, by simpa using h3, fun z => by cases z⟩
    | succ i => simpa using r.at (i := i) (by simpa using h)
theorem gl_mem {js : JS} {i : Nat} {q : Addr} (h : q ∈ gl fps js i) : ∃ j b, js[i]? = some (some (j, b)) ∧ q ∈ fps j := by
  unfold gl at h
  split at h
  · rename_i j b e; exact ⟨j, b, e, h⟩
  · cases h
theorem gl_at {js : JS} {i j : Nat} {b : Bool} (h : js[i]? = some (some (j, b))) : gl fps js i = fps j := by
  unfold gl; rw [h]
theorem argG (r : Rel K c O F H σ fps ds) : ∀ {ps : List Kd} {js : JS} {vs : List V} {xs args : List D}, JOk O ps js → BgA K F σ js vs xs → fillG ds js xs = some args →
    vs.length = ps.length ∧ args.length = ps.length ∧ ∀ i d, args[i]? = some d → ∃ v, vs[i]? = some v ∧ Ow K F H (ps.getD i .sh) v d (gl fps js i)
  | _, _, _, _, _, .nil, .nil, e => by cases e; exact ⟨rfl, rfl, fun i d h => by simp at h⟩
  | _, _, _, _, args, .e (js := js) jo, .e (vs := vs) (ds := xs) (d := d0) (v := v0) dp al, e => by
    unfold fillG at e
    cases z : fillG ds js xs with
    | none => rw [z] at e; cases e
    | some rr =>
      rw [z] at e
      cases e
      obtain ⟨h1, h2, h3⟩ := argG r jo al z
      refine ⟨by simp [h1], by simp [h2], fun i d h => ?_⟩
      cases i with
      | zero => cases h; exact ⟨v0, rfl, rfl, dp⟩
      | succ i =>
        obtain ⟨v, hv, ow⟩ := h3 i d (by simpa using h)
        exact ⟨v, by simpa using hv, by simpa [gl] using ow⟩
  | _, _, _, _, args, .pm (j := j) (js := js) hp hk jo, .s (vs := vs) (ds := xs) (v := v0) hv0 al, e => by
    unfold fillG at e
    cases y : look ds j with
    | none => rw [y] at e; cases e
    | some d0 =>
    rw [y] at e
    cases z : fillG ds js xs with
    | none => rw [z] at e; cases e
    | some rr =>
      rw [z] at e
      cases e
      obtain ⟨h1, h2, h3⟩ := argG r jo al z
      refine ⟨by simp [h1], by simp [h2], fun i d h => ?_⟩
      cases i with
      | zero =>
        cases h
        obtain ⟨u, hu, ow⟩ := r.slots j d0 (look_some y)
        rw [hv0] at hu; cases hu
        rw [hk] at ow
        exact ⟨v0, rfl, ow⟩
      | succ i =>
        obtain ⟨v, hv, ow⟩ := h3 i d (by simpa using h)
        exact ⟨v, by simpa using hv, by simpa [gl] using ow⟩
  | _, _, _, _, args, .mv (j := j) (js := js) hp hk _ jo, .s (vs := vs) (ds := xs) (v := v0) hv0 al, e => by
    unfold fillG at e
    cases y : look ds j with
    | none => rw [y] at e; cases e
    | some d0 =>
    rw [y] at e
    cases z : fillG ds js xs with
    | none => rw [z] at e; cases e
    | some rr =>
      rw [z] at e
      cases e
      obtain ⟨h1, h2, h3⟩ := argG r jo al z
      refine ⟨by simp [h1], by simp [h2], fun i d h => ?_⟩
      cases i with
      | zero =>
        cases h
        obtain ⟨u, hu, ow⟩ := r.slots j d0 (look_some y)
        rw [hv0] at hu; cases hu
        rw [hk] at ow
        exact ⟨v0, rfl, ow⟩
      | succ i =>
        obtain ⟨v, hv, ow⟩ := h3 i d (by simpa using h)
        exact ⟨v, by simpa using hv, by simpa [gl] using ow⟩
theorem bgA_at : ∀ {js : JS} {vs : List V} {xs : List D} {i j : Nat} {b : Bool}, BgA K F σ js vs xs → js[i]? = some (some (j, b)) → vs[i]? = (σ[j]?).join
  | _, _, _, i, _, _, .nil, h => by simp at h
  | _, _, _, i, _, _, .e _ r, h => by
    cases i with
    | zero => simp at h
    | succ i => simpa using bgA_at r (i := i) (by simpa using h)
  | _, _, _, i, _, _, .s hv r, h => by
    cases i with
    | zero =>
      simp at h
      obtain ⟨rfl, rfl⟩ := h
      simp [hv]
    | succ i => simpa using bgA_at r (i := i) (by simpa using h)
theorem argR_G {js : JS} {vs : List V} {xs args : List D} (r : Rel K c O F H σ fps ds) (jo : JOk O ps js) (al : BgA K F σ js vs xs) (e : fillG ds js xs = some args) (nd : (slG js).Nodup) : ArgR K ps F H vs (gl fps js) args := by
  obtain ⟨h1, h2, h3⟩ := argG r jo al e
  refine ⟨h1, h2, r.sub, h3, fun i q hq => ?_, fun i => ?_, fun i l hil q hq hq' => ?_⟩
  · obtain ⟨j, b, _, hq⟩ := gl_mem hq
    exact ⟨(r.off j q hq).1, (r.off j q hq).2.1⟩
  · unfold gl
    split
    · exact r.nd _
    · exact List.nodup_nil
  · obtain ⟨j, b, e1, hq⟩ := gl_mem hq
    obtain ⟨j', b', e2, hq'⟩ := gl_mem hq'
    by_cases z : j = j'
    · subst z; exact hil (posG_inj nd e1 e2).1
    · exact r.dj j j' z q hq hq'
def fpG (js : JS) (gps' fps : Nat → List Addr) (j : Nat) : List Addr := match posG js j with
  | some (i, false) => gps' i
  | some (_, true) => []
  | none => fps j
theorem off_free (r : Rel K c O F H σ fps ds) {js : JS} (jo : JOk O ps js) {i : Nat} {q : Addr} (h : q ∈ gl fps js i) : c.H0 q = none := by
  obtain ⟨j, b, e1, hq⟩ := gl_mem h
  rcases (r.off j q hq).2.2 with h | ⟨_, h⟩
  · exact h
  · rw [(jo.at e1).1] at h; cases h
theorem Rel.callG (r : Rel K c O F H σ fps ds) {js : JS} {vs : List V} {xs args args' : List D} (jo : JOk O ps js) (al : BgA K F σ js vs xs) (e : fillG ds js xs = some args) (nd : (slG js).Nodup) (hl : args'.length = js.length)
    (o : OutB K ps F H F' H' vs (gl fps js) gps' args') : Rel K c O F' H' σ (fpG js gps' fps) (backG js args' ds) := by
  have h0 : ∀ q, (H q = none ∨ ∃ i, q ∈ gl fps js i) → c.H0 q = none := fun q h => by
    rcases h with h | ⟨i, h⟩
    · exact r.live q h
    · exact off_free r jo h
  have hmv : ∀ {b}, Mv ps (gl fps js) b → ∃ i, b ∈ gl fps js i := fun ⟨i, h, _⟩ => ⟨i, h⟩
  have hout : ∀ j, posG js j = none → ∀ q ∈ fps j, ∀ i, q ∉ gl fps js i := fun j hj q hq i hi => by
    obtain ⟨j', b, e1, hq'⟩ := gl_mem hi
    by_cases z : j = j'
    · subst z; exact posG_none hj e1
    · exact r.dj j j' z q hq hq'
  have hpm : ∀ {j i}, posG js j = some (i, false) → ∀ q ∈ gps' i, F' q = none ∧ H' q ≠ none ∧ (H q = none ∨ ∃ i, q ∈ gl fps js i) := fun {j i} hj q hq => o.off i q (by rw [(jo.at (posG_some hj)).2.1]; rfl) hq
  have hdj : ∀ {j i l}, posG js j = some (i, false) → posG js l = none → ∀ q, q ∈ gps' i → q ∉ fps l := fun {j i l} hj hl q hq hq' => by
    rcases (hpm hj q hq).2.2 with h | ⟨i', h⟩
    · exact (r.off l q hq').2.1 h
    · exact hout l hl q hq' i' h
  refine ⟨o.sub, r.base.trans o.ext, fun b u e n => ?_, fun b e => ?_, fun b u e => ?_, fun j x hx => ?_, fun j q hq => ?_, fun j => ?_, fun j l hjl q hq hq' => ?_, r.par, by rw [backG_len]; exact r.len⟩
  · refine o.keep b u (r.keep b u e n) fun i hi => ?_
    rw [off_free r jo hi] at e; cases e
  · exact h0 b ((o.live b e).imp id hmv)
  · rcases o.new b u e with h | h
    · exact r.new b u h
    · exact .inr (h0 b (h.imp id hmv))
  · cases z : posG js j with
    | none =>
      rw [backG_out js _ _ j z] at hx
      obtain ⟨u, hu, ow⟩ := r.slots j x hx
      refine ⟨u, hu, ?_⟩
      have : fpG js gps' fps j = fps j := by unfold fpG; rw [z]
      rw [this]
      refine ow_mono o.ext ow fun q hq => ?_
      cases y : H q with
      | none => exact absurd y (r.off j q hq).2.1
      | some u => exact o.keep q u y fun i => hout j z q hq i
    | some p =>
      obtain ⟨i, b⟩ := p
      have hat := posG_some z
      have hj : j < ds.length := by
        rw [← backG_len js args' ds]; exact (List.getElem?_eq_some_iff.mp hx).1
      rw [backG_in nd hl hj hat] at hx
      cases b with
      | true => cases hx
      | false =>
        have hx' : args'[i]? = some x := by simpa using hx
        obtain ⟨u, hu, ow⟩ := o.ow i _ x ((jo.at hat).2.2 rfl) hx'
        have : fpG js gps' fps j = gps' i := by unfold fpG; rw [z]
        rw [this]
        refine ⟨u, ?_, ow⟩
        rw [bgA_at al hat] at hu
        cases y : σ[j]? with
        | none => rw [y] at hu; cases hu
        | some w => rw [y] at hu; simpa using hu
  · unfold fpG at hq
    split at hq
    · rename_i i hj
      obtain ⟨h1, h2, h3⟩ := hpm hj q hq
      exact ⟨h1, h2, .inl (h0 q h3)⟩
    · cases hq
    · rename_i hj
      obtain ⟨h1, h2, h3⟩ := r.off j q hq
      refine ⟨?_, fun y => ?_, h3⟩
      · cases z : F' q with
        | none => rfl
        | some u =>
          rcases o.new q u z with h | h | h
          · rw [h1] at h; cases h
          · exact absurd h h2
          · obtain ⟨i, h⟩ := hmv h; exact absurd h (hout j hj q hq i)
      · rcases o.live q y with h | h
        · exact h2 h
        · obtain ⟨i, h⟩ := hmv h; exact absurd h (hout j hj q hq i)
  · unfold fpG
    split
    · exact o.nd _
    · exact List.nodup_nil
    · exact r.nd _
  · unfold fpG at hq hq'
    split at hq
    · rename_i i hj
      split at hq'
      · rename_i i' hl'
        refine o.dj i i' (fun z => ?_) q hq hq'
        subst z
        have := (posG_some hj).symm.trans (posG_some hl')
        simp at this
        exact hjl this
      · cases hq'
      · rename_i hl'; exact hdj hj hl' q hq hq'
    · cases hq
    · rename_i hj
      split at hq'
      · rename_i i' hl'; exact hdj hl' hj q hq' hq
      · cases hq'
      · exact r.dj j l hjl q hq hq'
end
def mCallG (f : FD) (js : JS) (ml : M (List D)) : M D := bnd ml fun xs => fun s => match fillG s js xs with
  | some args => match f args with
    | .ok d as => if as.length = js.length then .ok d (backG js as s) else .no
    | _ => .no
  | none => .no
section
variable {K : Fg} {c : Ctx} {O ps : List Kd} {rk : Kd} {js : JS} {tl : TA} {ml : M (List D)} {mg : Str → Option Value} {f : FD} {E : XK}
theorem o_callG (h : DAG K c O js tl ml) (jo : JOk O ps js) (nd : (slG js).Nodup := by decide) : DO K c O rk (tCall (spD K mg f ps rk) [] E tl) (mCallG f js ml) := ⟨fun {F H σ fps ds ds' d} r e Q q => by
  obtain ⟨xs, s1, e1, g1⟩ := bnd_ok e
  split at g1
  · rename_i args ha
    split at g1
    · rename_i d0 as hf
      split at g1
      · rename_i hl
        cases g1
        refine h.run r e1 _ fun F1 H1 fps1 vs sF r1 al => ?_
        rw [List.append_nil]
        refine spD_ok (argR_G r1 jo al ha nd) hf fun F' H' gps' v fpv o => ?_
        refine q F' H' _ v fpv (sF.trans o.ext) (r1.callG jo al ha nd hl o.toOutB) o.res (fun q hq => ?_) o.rnd
        obtain ⟨h1, h2, h3, h4⟩ := o.roff q hq
        have h3' : H1 q = none ∨ ∃ i, q ∈ gl fps1 js i := h3.imp id fun ⟨i, h, _⟩ => ⟨i, h⟩
        refine ⟨h1, h2, ?_, fun j hj => ?_⟩
        · rcases h3' with h | ⟨i, h⟩
          · exact r1.live q h
          · exact off_free r1 jo h
        · unfold fpG at hj
          split at hj
          · rename_i i hp
            refine h4 i ?_ hj
            rw [(jo.at (posG_some hp)).2.2 rfl]; rfl
          · cases hj
          · rename_i hp
            rcases h3' with h | ⟨i, h⟩
            · exact (r1.off j q hj).2.1 h
            · obtain ⟨j', b, e1, hq'⟩ := gl_mem h
              by_cases z : j = j'
              · subst z; exact posG_none hp e1
              · exact r1.dj j j' z q hj hq'
      · cases g1
    · cases g1
  · cases g1⟩
end
end Z
set_option Elab.async false
set_option linter.all false
set_option maxRecDepth 100000
namespace Z
open PySem L2
/-! ### tuples of things of one's own -/
def tcs : List Kd → Kd
  | [] => .te
  | k :: r => .tc k (tcs r)
def glo (fps : Nat → List Addr) : Option (Nat × Bool) → List Addr
  | some (j, _) => fps j
  | none => []
def allMv : JS → Bool
  | [] => true
  | some (_, false) :: _ => false
  | _ :: r => allMv r
theorem allMv_at : ∀ {js : JS} {i j : Nat} {b : Bool}, allMv js = true → js[i]? = some (some (j, b)) → b = true
  | [], i, j, b, _, h => by simp at h
  | none :: js, i, j, b, a, h => by
    cases i with
    | zero => simp at h
    | succ i => exact allMv_at (js := js) a (by simpa using h)
  | some (l, false) :: js, i, j, b, a, h => by cases a
  | some (l, true) :: js, i, j, b, a, h => by
    cases i with
    | zero => simp at h; exact h.2
    | succ i => exact allMv_at (js := js) a (by simpa using h)
section
variable {K : Fg} {c : Ctx} {O ks : List Kd} {F H F' H' : Hp} {σ : St} {fps gps' : Nat → List Addr} {ds : DS}
theorem t_of : ∀ {ks : List Kd} {vs : List V} {args : List D} {fs : List (List Addr)}, vs.length = ks.length → args.length = ks.length → fs.length = ks.length →
    (∀ i d, args[i]? = some d → ∃ v, vs[i]? = some v ∧ Ow K F H (ks.getD i .sh) v d (fs.getD i [])) → (Ow2 K F H (tcs ks)).t vs args fs
  | [], [], [], [], _, _, _, _ => ⟨rfl, rfl, rfl⟩
  | k :: ks, v :: vs, a :: as, f :: fs, h1, h2, h3, h => by
    obtain ⟨v', hv, ow⟩ := h 0 a rfl
    cases hv
    refine ⟨v, a, f, vs, as, fs, rfl, rfl, rfl, ow, t_of (by simpa using h1) (by simpa using h2) (by simpa using h3) fun i d hd => ?_⟩
    obtain ⟨w, hw, o⟩ := h (i + 1) d (by simpa using hd)
    exact ⟨w, by simpa using hw, by simpa using o⟩
theorem t_in : ∀ {ks : List Kd} {vs : List V} {args : List D} {fs : List (List Addr)}, (Ow2 K F H (tcs ks)).t vs args fs → vs.length = ks.length ∧ args.length = ks.length ∧ fs.length = ks.length
  | [], _, _, _, ⟨h1, h2, h3⟩ => by subst h1 h2 h3; exact ⟨rfl, rfl, rfl⟩
  | k :: ks, _, _, _, h => by
    obtain ⟨x, d, f, xr, dr, fr, rfl, rfl, rfl, _, h2⟩ := h
    obtain ⟨a, b, c⟩ := t_in h2
    exact ⟨by simp [a], by simp [b], by simp [c]⟩
theorem tcs_ow {ks : List Kd} {v : V} {d : D} {fp : List Addr} : Ow K F H (tcs ks) v d fp = TpO H (Ow2 K F H (tcs ks)).t v d fp := by
  cases ks <;> rfl
theorem glo_gl (js : JS) (i : Nat) : (js.map (glo fps)).getD i [] = gl fps js i := by
  unfold gl
  rw [List.getD_eq_getElem?_getD, List.getElem?_map]
  cases z : js[i]? with
  | none => rfl
  | some o =>
    cases o with
    | none => rfl
    | some p => rfl
theorem glo_mem {js : JS} {q : Addr} (h : q ∈ (js.map (glo fps)).flatten) : ∃ i, q ∈ gl fps js i := by
  obtain ⟨l, hl, hq⟩ := List.mem_flatten.mp h
  obtain ⟨i, hi⟩ := List.mem_iff_getElem?.mp hl
  refine ⟨i, ?_⟩
  rw [← glo_gl, List.getD_eq_getElem?_getD, hi]
  exact hq
theorem glo_nd (r : Rel K c O F H σ fps ds) : ∀ {js : JS}, (slG js).Nodup → (js.map (glo fps)).flatten.Nodup
  | [], _ => by simp
  | none :: js, nd => by
    have := glo_nd r (js := js) (by simpa [slG] using nd)
    simpa [glo] using this
  | some (j, b) :: js, nd => by
    have nd' : j ∉ slG js ∧ (slG js).Nodup := by simpa [slG] using nd
    rw [List.map_cons, List.flatten_cons, List.nodup_append]
    refine ⟨r.nd j, glo_nd r nd'.2, fun q hq q' hq' e => ?_⟩
    subst e
    obtain ⟨i, hi⟩ := glo_mem hq'
    obtain ⟨j', b', e1, hq2⟩ := gl_mem hi
    by_cases z : j = j'
    · subst z; exact nd'.1 (slG_mem e1)
    · exact r.dj j j' z q hq hq2
/-- slots are left -/
theorem Rel.moveG (r : Rel K c O F H σ fps ds) {js : JS} {xs : List D} (nd : (slG js).Nodup) (hl : xs.length = js.length) (am : allMv js = true) : Rel K c O F H σ (fpG js (fun _ => []) fps) (backG js xs ds) := by
  have hin : ∀ j q, q ∈ fpG js (fun _ => []) fps j → q ∈ fps j ∧ posG js j = none := fun j q hq => by
    unfold fpG at hq
    split at hq
    · cases hq
    · cases hq
    · rename_i h; exact ⟨hq, h⟩
  refine ⟨r.sub, r.base, r.keep, r.live, r.new, fun j x hx => ?_, fun j q hq => r.off j q (hin j q hq).1, fun j => ?_, fun j l hjl q hq hq' => r.dj j l hjl q (hin j q hq).1 (hin l q hq').1, r.par, by rw [backG_len]; exact r.len⟩
  · cases z : posG js j with
    | none =>
      rw [backG_out js _ _ j z] at hx
      have : fpG js (fun _ => []) fps j = fps j := by unfold fpG; rw [z]
      rw [this]
      exact r.slots j x hx
    | some p =>
      obtain ⟨i, b⟩ := p
      have hat := posG_some z
      have hj : j < ds.length := by rw [← backG_len js xs ds]; exact (List.getElem?_eq_some_iff.mp hx).1
      rw [backG_in nd hl hj hat, allMv_at am hat] at hx
      cases hx
  · unfold fpG
    split
    · exact List.nodup_nil
    · exact List.nodup_nil
    · exact r.nd j
end
def mTupG (js : JS) (ml : M (List D)) : M D := bnd ml fun xs => fun s => match fillG s js xs with
  | some args => if fits args.length then .ok (.tuple args) (backG js xs s) else .no
  | none => .no
def mLstG (js : JS) (ml : M (List D)) : M D := bnd ml fun xs => fun s => match fillG s js xs with
  | some args => if fits args.length then .ok (.list args) (backG js xs s) else .no
  | none => .no
section
variable {K : Fg} {c : Ctx} {O ks : List Kd} {js : JS} {tl : TA} {ml : M (List D)}
theorem bgA_len {F : Hp} {σ : St} : ∀ {js : JS} {vs : List V} {xs : List D}, BgA K F σ js vs xs → xs.length = js.length
  | _, _, _, .nil => rfl
  | _, _, _, .e _ r => by simp [bgA_len r]
  | _, _, _, .s _ r => by simp [bgA_len r]
theorem o_tupG (h : DAG K c O js tl ml) (jo : JOk O ks js) (am : allMv js = true := by rfl) (nd : (slG js).Nodup := by decide) : DO K c O (tcs ks) (tTup tl) (mTupG js ml) := ⟨fun {F H σ fps ds ds' d} r e Q q => by
  obtain ⟨xs, s1, e1, g1⟩ := bnd_ok e
  split at g1
  · rename_i args ha
    split at g1
    · rename_i hfit
      cases g1
      refine h.run r e1 _ fun F1 H1 fps1 vs sF r1 al => ?_
      obtain ⟨l1, l2, ow⟩ := argG r1 jo al ha
      refine ⟨by rw [l1, ← l2]; exact of_decide_eq_true hfit, fun p hp => ?_⟩
      have rm := r1.moveG nd (bgA_len al) am
      obtain ⟨p1, p2, p3⟩ := r1.fresh hp
      have hfl : ∀ q ∈ (js.map (glo fps1)).flatten, F1 q = none ∧ H1 q ≠ none ∧ c.H0 q = none ∧ ∀ i, q ∉ fpG js (fun _ => []) fps1 i := fun q hq => by
        obtain ⟨i, hi⟩ := glo_mem hq
        obtain ⟨j, b, e2, hq2⟩ := gl_mem hi
        refine ⟨(r1.off j q hq2).1, (r1.off j q hq2).2.1, off_free r1 jo hi, fun l hl => ?_⟩
        unfold fpG at hl
        split at hl
        · cases hl
        · cases hl
        · rename_i hn
          by_cases z : l = j
          · subst z; exact posG_none hn e2
          · exact r1.dj l j z q hl hq2
      have hne : ∀ q ∈ (js.map (glo fps1)).flatten, q ≠ p := fun q hq z => by subst z; exact (hfl q hq).2.1 hp
      refine q F1 _ _ _ (p :: (js.map (glo fps1)).flatten) sF (rm.allocO hp _) ?_ (fun q hq => ?_) ?_
      · rw [tcs_ow]
        refine ⟨p, vs, args, js.map (glo fps1), rfl, rfl, upd_same, rfl, t_of l1 l2 (by rw [List.length_map]; exact jo.len) fun i d hd => ?_⟩
        obtain ⟨v, hv, o⟩ := ow i d hd
        rw [glo_gl]
        refine ⟨v, hv, ow_mono (Same.refl _) o fun q hq => upd_ne fun z => ?_⟩
        subst z
        obtain ⟨j, b, e2, hq2⟩ := gl_mem hq
        exact p3 j hq2
      · rcases List.mem_cons.mp hq with rfl | hq
        · exact ⟨p1, by rw [upd_same]; simp, p2, fun i hi => by
            unfold fpG at hi
            split at hi
            · cases hi
            · cases hi
            · exact p3 i hi⟩
        · rw [upd_ne (hne q hq)]
          exact hfl q hq
      · exact List.nodup_cons.mpr ⟨fun z => hne p z rfl, glo_nd r1 nd⟩
    · cases g1
  · cases g1⟩
end
/-! ### a tuple's things given to slots -/
def gNm : List Nat → TGs
  | [] => gNil
  | i :: is => gCons (gName i) (gNm is)
def setsD : List Nat → List D → DS → DS
  | i :: is, d :: r, s => setsD is r (s.set i (some d))
  | _, _, s => s
def setsK : List Nat → List Kd → List Kd → List Kd
  | i :: is, k :: r, O => setsK is r (O.set i k)
  | _, _, O => O
def sAsgT (is : List Nat) (m : M D) : MS := fun s => match m s with
  | .ok (.tuple xs) s' => if xs.length = is.length then .nx (setsD is xs s') else .no
  | _ => .no
section
variable {K : Fg} {c : Ctx} {Ob : List Kd} {F H : Hp}
theorem gNm_ok {Q : St → Hp → Prop} : ∀ {is : List Nat} {ks : List Kd} {O : List Kd} {vs : List V} {xs : List D} {fs : List (List Addr)} {σ : St} {fps : Nat → List Addr} {ds : DS}, Rel K c O F H σ fps ds → (Ow2 K F H (tcs ks)).t vs xs fs → is.length = ks.length →
    (∀ i ∈ is, i < O.length ∧ isPm O[i]? = false) → (∀ k ∈ ks, isPm (some k) = false) → (∀ q ∈ fs.flatten, F q = none ∧ H q ≠ none ∧ c.H0 q = none ∧ ∀ i, q ∉ fps i) → fs.flatten.Nodup →
    (∀ σ' fps', Rel K c (setsK is ks O) F H σ' fps' (setsD is xs ds) → Q σ' H) → gNm is vs σ H Q
  | [], [], O, _, _, _, σ, fps, ds, r, ⟨h1, h2, h3⟩, _, _, _, _, _, q => by
    subst h1 h2 h3
    exact ⟨rfl, q σ fps r⟩
  | i :: is, k :: ks, O, _, _, _, σ, fps, ds, r, h, hl, hi, hk, hf, nd, q => by
    obtain ⟨x, d, f, xr, dr, fr, rfl, rfl, rfl, h1, h2⟩ := h
    rw [List.flatten_cons] at nd hf
    obtain ⟨nd1, nd2, nd3⟩ := List.nodup_append.mp nd
    obtain ⟨hi1, hi2⟩ := hi i (by simp)
    have r1 := r.put hi1 hi2 h1 (fun q hq => by
      obtain ⟨a, b, cc, dd⟩ := hf q (List.mem_append_left _ hq)
      exact ⟨a, b, cc, fun j _ => dd j⟩) nd1
    refine ⟨x, xr, rfl, gNm_ok r1 h2 (by simpa using hl) (fun j hj => ?_) (fun k' hk' => hk k' (by simp [hk'])) (fun q hq => ?_) nd2 q⟩
    · obtain ⟨a, b⟩ := hi j (by simp [hj])
      refine ⟨by rw [List.length_set]; exact a, ?_⟩
      by_cases z : j = i
      · subst z; rw [List.getElem?_set_self a]; exact hk k (by simp)
      · rw [List.getElem?_set_ne (Ne.symm z)]; exact b
    · obtain ⟨a, b, cc, dd⟩ := hf q (List.mem_append_right _ hq)
      refine ⟨a, b, cc, fun j hj => ?_⟩
      by_cases z : j = i
      · simp only [if_pos z] at hj; exact nd3 q hj q hq rfl
      · simp only [if_neg z] at hj; exact dd j hj
theorem c_asgT {O : List Kd} {te : TE} {m : M D} {n : Nat} (is : List Nat) {ks : List Kd} (h : DO K c O (tcs ks) te m) (hn : n = is.length) (hl : is.length = ks.length := by rfl) (hi : ∀ i ∈ is, i < O.length ∧ isPm O[i]? = false) (hk : ∀ k ∈ ks, isPm (some k) = false) : DC K c Ob O (tAsg te (gTup K n (gNm is))) (sAsgT is m) (setsK is ks O) := ⟨fun {F H σ fps ds} r E p => by
  unfold sAsgT at p
  cases e : m ds with
  | no => rw [e] at p; exact p.elim
  | ok d s' =>
    rw [e] at p
    refine h.run r e _ fun F1 H1 fps1 w fpv s1 r1 ow hf nd => ?_
    rw [tcs_ow] at ow
    obtain ⟨a, xs, es, fs, rfl, rfl, ha, rfl, ht⟩ := ow
    dsimp only at p
    by_cases hz : es.length = is.length
    · rw [if_pos hz] at p
      obtain ⟨l1, l2, l3⟩ := t_in ht
      refine ⟨a, xs, rfl, .inl (.inl ha), by rw [l1, ← hl, hn], gNm_ok r1 ht hl hi hk (fun q hq => hf q (List.mem_cons_of_mem _ hq)) (List.nodup_cons.mp nd).2 fun σ2 fps2 r2 => p F1 H1 σ2 fps2 s1 r2⟩
    · rw [if_neg hz] at p; exact p.elim⟩
/-- return x, x a thing of one's own, a parameter handed over, too -/
def sRetM (i : Nat) : MS := fun s => match s[i]? with
  | some (some d) => .rt d (s.set i (some .none))
  | _ => .no
theorem c_retM {O O' : List Kd} (i : Nat) (hk : c.rk = O.getD i .sh) (hi : i < O.length := by first | decide | exact of_decide_eq_true rfl) (hp : isPm O[i]? = false := by rfl) : DC K c Ob O (tRet (tVar i)) (sRetM i) O' := ⟨fun {F H σ fps ds} r E p => by
  unfold sRetM at p
  cases z : ds[i]? with
  | none => rw [z] at p; exact p.elim
  | some o =>
    cases o with
    | none => rw [z] at p; exact p.elim
    | some d =>
      rw [z] at p
      obtain ⟨v, hv, ow⟩ := r.slots i d z
      have r2 := r.put hi hp (k := .sh) (v := .non) (d := .none) (fpv := []) ⟨rfl, .non⟩ (fun q hq => absurd hq (by simp)) (by simp)
      refine ⟨v, hv, p F H _ _ _ v (fps i) (Same.refl _) r2 (by rw [hk]; exact ow) (fun q hq => ?_) (r.nd i)⟩
      obtain ⟨h1, h2, h3⟩ := r.off i q hq
      refine ⟨h1, h2, ?_, fun j hj hq' => ?_⟩
      · rcases h3 with h3 | ⟨_, h3⟩
        · exact h3
        · rw [hp] at h3; cases h3
      · by_cases y : j = i
        · simp only [if_pos y] at hq'; cases hq'
        · simp only [if_neg y] at hq'; exact r.dj j i y q hq' hq⟩
end
/-! ### what these come to -/
section
variable {s : DS} {Nx Bk Ct : DS → Prop} {Ex : Xc → DS → Prop} {Rt : D → DS → Prop}
theorem ev_at_0 {j : Nat} {Q : D → DS → Prop} : Ev0 (mAt j) s Q = So0 (look s j) fun _ => Q .none s := by
  unfold Ev0 mAt look
  cases s[j]? with
  | none => rfl
  | some o => cases o <;> rfl
theorem ev_at {j : Nat} {Q : D → DS → Prop} : Ev (mAt j) s Q = So (look s j) fun _ => Q .none s := by with_unfolding_all exact ev_at_0
theorem xv_callG_0 {f : FD} {js : JS} {a : M (List D)} {Q : D → DS → Prop} : Ev0 (mCallG f js a) s Q = Ev0 a s fun xs s' => So0 (fillG s' js xs) fun args => Cl0 f args fun d as => as.length = js.length ∧ Q d (backG js as s') := by
  unfold mCallG; rw [ev_bnd_0]; refine ev_ext_0 fun xs s' => ?_
  dsimp only [Ev0]
  cases fillG s' js xs with
  | none => rfl
  | some args =>
    dsimp only [So0, Cl0]
    cases f args with
    | no => simp
    | ex x as => simp
    | ok d as =>
      refine propext ⟨fun h => ?_, fun ⟨d1, as1, e, h1, h2⟩ => ?_⟩
      · dsimp only at h
        by_cases z : as.length = js.length
        · rw [if_pos z] at h; exact ⟨d, as, rfl, z, h⟩
        · rw [if_neg z] at h; exact h.elim
      · cases e
        dsimp only
        rw [if_pos h1]; exact h2
theorem xv_callG {f : FD} {js : JS} {a : M (List D)} {Q : D → DS → Prop} : Ev (mCallG f js a) s Q = Ev a s fun xs s' => So (fillG s' js xs) fun args => Cl f args fun d as => as.length = js.length ∧ Q d (backG js as s') := by with_unfolding_all exact xv_callG_0
theorem xv_tupG_0 {js : JS} {a : M (List D)} {Q : D → DS → Prop} : Ev0 (mTupG js a) s Q = Ev0 a s fun xs s' => So0 (fillG s' js xs) fun args => fits args.length = true ∧ Q (.tuple args) (backG js xs s') := by
  unfold mTupG; rw [ev_bnd_0]; refine ev_ext_0 fun xs s' => ?_
  dsimp only [Ev0]
  cases fillG s' js xs with
  | none => rfl
  | some args =>
    dsimp only [So0]
    cases z : fits args.length <;> simp
theorem xv_tupG {js : JS} {a : M (List D)} {Q : D → DS → Prop} : Ev (mTupG js a) s Q = Ev a s fun xs s' => So (fillG s' js xs) fun args => fits args.length = true ∧ Q (.tuple args) (backG js xs s') := by with_unfolding_all exact xv_tupG_0
def tof : D → Option (List D)
  | .tuple xs => some xs
  | _ => none
theorem so_tof {xs : List D} {Q : List D → Prop} : So (tof (.tuple xs)) Q = Q xs := by with_unfolding_all rfl
theorem run_asgT_0 {is : List Nat} {m : M D} : Run0 (sAsgT is m) s Nx Rt Bk Ct Ex = Ev0 m s fun d s' => So0 (tof d) fun xs => xs.length = is.length ∧ Nx (setsD is xs s') := by
  unfold Run0 sAsgT Ev0
  cases m s with
  | no => rfl
  | ok d s' =>
    cases d with
    | tuple xs =>
      dsimp only [tof, So0]
      by_cases h : xs.length = is.length
      · rw [if_pos h]; simp [h]
      · rw [if_neg h]; simp [h]
    | _ => rfl
theorem run_asgT {is : List Nat} {m : M D} : Run (sAsgT is m) s Nx Rt Bk Ct Ex = Ev m s fun d s' => So (tof d) fun xs => xs.length = is.length ∧ Nx (setsD is xs s') := by with_unfolding_all exact run_asgT_0
theorem run_retM_0 {i : Nat} : Run0 (sRetM i) s Nx Rt Bk Ct Ex = So0 (look s i) fun d => Rt d (s.set i (some .none)) := by
  unfold Run0 sRetM look
  cases s[i]? with
  | none => rfl
  | some o => cases o <;> rfl
theorem run_retM {i : Nat} : Run (sRetM i) s Nx Rt Bk Ct Ex = So (look s i) fun d => Rt d (s.set i (some .none)) := by with_unfolding_all exact run_retM_0
theorem so_fillN {Q : List D → Prop} : So (fillG s [] []) Q = Q [] := by with_unfolding_all rfl
theorem so_fillE_0 {js : JS} {x : D} {xs : List D} {Q : List D → Prop} : So0 (fillG s (none :: js) (x :: xs)) Q = So0 (fillG s js xs) fun r => Q (x :: r) := by
  show So0 (match fillG s js xs with | some r => some (x :: r) | none => none) Q = _
  cases fillG s js xs <;> rfl
theorem so_fillE {js : JS} {x : D} {xs : List D} {Q : List D → Prop} : So (fillG s (none :: js) (x :: xs)) Q = So (fillG s js xs) fun r => Q (x :: r) := by with_unfolding_all exact so_fillE_0
theorem so_fillS_0 {js : JS} {j : Nat} {b : Bool} {x : D} {xs : List D} {Q : List D → Prop} : So0 (fillG s (some (j, b) :: js) (x :: xs)) Q = So0 (look s j) fun d => So0 (fillG s js xs) fun r => Q (d :: r) := by
  show So0 (match look s j with | some d => (match fillG s js xs with | some r => some (d :: r) | none => none) | none => none) Q = _
  cases look s j with
  | none => rfl
  | some d => cases fillG s js xs <;> rfl
theorem so_fillS {js : JS} {j : Nat} {b : Bool} {x : D} {xs : List D} {Q : List D → Prop} : So (fillG s (some (j, b) :: js) (x :: xs)) Q = So (look s j) fun d => So (fillG s js xs) fun r => Q (d :: r) := by with_unfolding_all exact so_fillS_0
theorem bkG0 : backG [] [] s = s := nr rfl
theorem bkGE {js : JS} {a : D} {as : List D} : backG (none :: js) (a :: as) s = backG js as s := nr rfl
theorem bkGF {js : JS} {j : Nat} {a : D} {as : List D} : backG (some (j, false) :: js) (a :: as) s = backG js as (s.set j (some a)) := nr rfl
theorem bkGT {js : JS} {j : Nat} {a : D} {as : List D} : backG (some (j, true) :: js) (a :: as) s = backG js as (s.set j none) := nr rfl
theorem stD0 {xs : List D} : setsD [] xs s = s := nr rfl
theorem stDC {i : Nat} {is : List Nat} {d : D} {xs : List D} : setsD (i :: is) (d :: xs) s = setsD is xs (s.set i (some d)) := nr rfl
end
end Z
set_option Elab.async false
set_option linter.all false
set_option maxRecDepth 100000
namespace Z
open PySem L2
/-! ### objects of one's own -/
def clsOf : Kd → List (Str × Addr)
  | .oe cs => cs
  | .of _ _ r => clsOf r
  | _ => []
theorem clsOf_eq {K : Fg} {F H : Hp} : ∀ {k : Kd}, (Ow2 K F H k).c = clsOf k := fun {k} => by
  induction k with
  | oe cs => rfl
  | of f k r _ ih => exact ih
  | _ => rfl
theorem ob_ow {K : Fg} {F H : Hp} {k : Kd} {v : V} {d : D} {fp : List Addr} (h : isOb (unpm k) = true) (o : Ow K F H k v d fp) :
    ∃ p C dx cls fs ds gs, v = .ref p ∧ d = .dict ((.none, .str cls) :: ds) ∧ H p = some (.ins C dx fs) ∧ H dx = some (.own p) ∧ (clsOf (unpm k)).lookup cls = some C ∧ fp = p :: dx :: gs.flatten ∧ FlO (fun f => Ow K F H (fkOf (unpm k) f)) fs ds gs := by
  rw [← ow_unpm] at o
  obtain ⟨h1, h2⟩ := ob_of (K := K) (F := F) (H := H) h
  have o' : (Ow2 K F H (unpm k)).a v d fp := o
  rw [h2] at o'
  obtain ⟨p, C, dx, cls, fs, ds, gs, e1, e2, e3, e4, e5, e6, e7⟩ := o'
  rw [clsOf_eq] at e5
  have : (Ow2 K F H (unpm k)).f = fun f => Ow K F H (fkOf (unpm k) f) := funext h1
  rw [this] at e7
  exact ⟨p, C, dx, cls, fs, ds, gs, e1, e2, e3, e4, e5, e6, e7⟩
theorem ow_ob {K : Fg} {F H : Hp} {k : Kd} {p C dx : Addr} {cls : Str} {fs : List (Str × V)} {ds : List (D × D)} {gs : List (List Addr)} (h : isOb (unpm k) = true) (e3 : H p = some (.ins C dx fs)) (e4 : H dx = some (.own p)) (e5 : (clsOf (unpm k)).lookup cls = some C)
    (e7 : FlO (fun f => Ow K F H (fkOf (unpm k) f)) fs ds gs) : Ow K F H k (.ref p) (.dict ((.none, .str cls) :: ds)) (p :: dx :: gs.flatten) := by
  rw [← ow_unpm]
  obtain ⟨h1, h2⟩ := ob_of (K := K) (F := F) (H := H) h
  show (Ow2 K F H (unpm k)).a _ _ _
  rw [h2]
  have : (Ow2 K F H (unpm k)).f = fun f => Ow K F H (fkOf (unpm k) f) := funext h1
  rw [this]
  exact ⟨p, C, dx, cls, fs, ds, gs, rfl, rfl, e3, e4, by rw [clsOf_eq]; exact e5, rfl, e7⟩
def putDF (f : Str) (x : D) : List (D × D) → List (D × D)
  | [] => [(.str f, x)]
  | (.str g, d) :: r => if g = f then (.str g, x) :: r else (.str g, d) :: putDF f x r
  | e :: r => e :: putDF f x r
theorem FlO.len {R : Str → OwR} : ∀ {vs : List (Str × V)} {ds : List (D × D)} {fs : List (List Addr)}, FlO R vs ds fs → vs.length = ds.length
  | _, _, _, .nil => rfl
  | _, _, _, .cons _ r => by simp [r.len]
theorem FlO.none {R : Str → OwR} {f : Str} : ∀ {vs : List (Str × V)} {ds : List (D × D)} {fs : List (List Addr)}, FlO R vs ds fs → fldD f ds = none → vs.lookup f = none
  | _, _, _, .nil, _ => rfl
  | _, _, _, .cons (f := g) (v := v) h r, e => by
    unfold fldD at e
    by_cases z : f = g
    · rw [if_pos z] at e; cases e
    · rw [if_neg z] at e
      rw [List.lookup_cons]
      have : (f == g) = false := by simpa using z
      rw [this]
      exact r.none e
theorem FlO.imp2 {R R' : Str → OwR} : ∀ {vs : List (Str × V)} {ds : List (D × D)} {fs : List (List Addr)}, FlO R vs ds fs → (∀ f v d fp, fp ∈ fs → R f v d fp → R' f v d fp) → FlO R' vs ds fs
  | _, _, _, .nil, _ => .nil
  | _, _, _, .cons h r, g => .cons (g _ _ _ _ (by simp) h) (r.imp2 fun f v d fp hm => g f v d fp (by simp [hm]))
theorem FlO.put {R : Str → OwR} {f : Str} {v : V} {x : D} (hv : R f v x []) (hR : ∀ v d fp, R f v d fp → fp = []) : ∀ {vs : List (Str × V)} {ds : List (D × D)} {fs : List (List Addr)}, FlO R vs ds fs → ∃ fs', FlO R (putF f v vs) (putDF f x ds) fs' ∧ fs'.flatten = fs.flatten
  | _, _, _, .nil => ⟨[[]], .cons hv .nil, rfl⟩
  | _, _, _, .cons (f := g) (v := w) (d := d) (fp := fp) (vs := vs) (ds := ds) (fs := fs) h r => by
    by_cases z : g = f
    · subst z
      have e1 : putF g v ((g, w) :: vs) = (g, v) :: vs := if_pos rfl
      have e2 : putDF g x ((.str g, d) :: ds) = (.str g, x) :: ds := if_pos rfl
      rw [e1, e2]
      refine ⟨[] :: fs, .cons hv r, ?_⟩
      rw [hR _ _ _ h]
    · have e1 : putF f v ((g, w) :: vs) = (g, w) :: putF f v vs := if_neg z
      have e2 : putDF f x ((.str g, d) :: ds) = (.str g, d) :: putDF f x ds := if_neg z
      rw [e1, e2]
      obtain ⟨fs', h1, h2⟩ := FlO.put hv hR r
      exact ⟨fp :: fs', .cons h h1, by rw [List.flatten_cons, List.flatten_cons, h2]⟩
def dof : D → Option (List (D × D))
  | .dict l => some l
  | _ => none
/-- x.f -/
def mFld (i : Nat) (f : Str) : M D := fun s => match look s i with
  | some d => match dof d with
    | some l => opt (fldD f l) s
    | none => .no
  | none => .no
/-- x.f = e -/
def sFldD (i : Nat) (f : Str) (m : M D) : MS := fun s => match m s with
  | .ok x s1 => match look s1 i with
    | some d => match dof d with
      | some l => if decide (l.length ≤ 1000) then .nx (s1.set i (some (.dict (putDF f x l)))) else .no
      | none => .no
    | none => .no
  | .no => .no
section
variable {K : Fg} {c : Ctx} {O Ob : List Kd} {te : TE} {m : M D}
theorem d_fld (i : Nat) (f : Str) (hob : isOb (unpm (O.getD i .sh)) = true) (hf : fkOf (unpm (O.getD i .sh)) f = .sh) (hc : ∀ cls C, (clsOf (unpm (O.getD i .sh))).lookup cls = some C → Cls K C ∧ NoAttr K C f) : DE K c O (tFld K (tVar i) f) (mFld i f) := ⟨fun {F H σ fps ds ds' d} r e Q q => by
  unfold mFld at e
  split at e
  · rename_i d0 hd0
    split at e
    · rename_i l hl
      obtain ⟨e1, e2⟩ := opt_ok e
      subst e2
      obtain ⟨v, hv, ow⟩ := r.slots i d0 (look_some hd0)
      obtain ⟨p, C, dx, cls, fs, es, gs, rfl, rfl, hp, hdx, hcls, hfp, al⟩ := ob_ow hob ow
      cases hl
      have e1' : fldD f es = some d := e1
      obtain ⟨va, u, vb, da, db, fa, fn, fb, rfl, rfl, rfl, h1, h2, h3, h4⟩ := al.split e1'
      have h2' : Ow K F H (fkOf (unpm (O.getD i .sh)) f) u d fn := h2
      rw [hf] at h2'
      obtain ⟨c1, c2⟩ := hc cls C hcls
      exact ⟨_, hv, p, C, dx, _, u, rfl, hp, c1, c2, lookup_split h4, q F H fps u (Same.refl _) r h2'.2⟩
    · cases e
  · cases e⟩
theorem c_fld (i : Nat) (f : Str) (h : DE K c O te m) (hob : isOb (unpm (O.getD i .sh)) = true) (hf : fkOf (unpm (O.getD i .sh)) f = .sh) (hc : ∀ cls C, (clsOf (unpm (O.getD i .sh))).lookup cls = some C → Cls K C ∧ NoAttr K C f) : DC K c Ob O (sFld K (tVar i) te f) (sFldD i f m) O := ⟨fun {F H σ fps ds} r E p => by
  unfold sFldD at p
  cases e : m ds with
  | no => rw [e] at p; exact p.elim
  | ok x s1 =>
    rw [e] at p
    dsimp only at p
    refine h.run r e _ fun F1 H1 fps1 y sF r1 dp => ?_
    split at p
    · rename_i d0 hd0
      split at p
      · rename_i l hl
        split at p
        · rename_i hz
          have hz' := of_decide_eq_true hz
          obtain ⟨v, hv, ow⟩ := r1.slots i d0 (look_some hd0)
          obtain ⟨a, C, dx, cls, fs, es, gs, rfl, rfl, hp, hdx, hcls, hfp, al⟩ := ob_ow hob ow
          cases hl
          obtain ⟨c1, c2⟩ := hc cls C hcls
          refine ⟨_, hv, a, C, dx, fs, rfl, hp, c1, c2, by rw [al.len]; have := hz'; rw [List.length_cons] at this; omega, ?_⟩
          have nd := r1.nd i
          rw [hfp] at nd
          obtain ⟨nd1, nd2⟩ := List.nodup_cons.mp nd
          obtain ⟨nd3, nd4⟩ := List.nodup_cons.mp nd2
          have hin : ∀ q, q ∈ a :: dx :: gs.flatten → q ∈ fps1 i := fun q hq => by rw [hfp]; exact hq
          have hoff := fun q hq => r1.off i q (hin q hq)
          have r2 := r1.aside i
          have hna : ∀ q ∈ a :: dx :: gs.flatten, ∀ j, j ≠ i → q ∉ fps1 j := fun q hq j hj hq' => r1.dj j i hj q hq' (hin q hq)
          have hna' : ∀ q ∈ a :: dx :: gs.flatten, ∀ j, q ∉ (if j = i then [] else fps1 j) := fun q hq j hj => by
            by_cases z : j = i
            · rw [if_pos z] at hj; cases hj
            · rw [if_neg z] at hj; exact hna q hq j z hj
          have r3 := r2.updP (p := a) (hoff a (by simp)).1 ((hoff a (by simp)).2.2.imp id (·.1)) (hna' a (by simp)) (.ins C dx (putF f y fs))
          have al2 : FlO (fun g => Ow K F1 (upd H1 a (.ins C dx (putF f y fs))) (fkOf (unpm (O.getD i .sh)) g)) fs es gs := al.imp2 fun g v d fp hm o => ow_mono (Same.refl _) o fun q hq => upd_ne fun z => by
            subst z
            exact nd1 (List.mem_cons_of_mem _ (List.mem_flatten.mpr ⟨fp, hm, hq⟩))
          obtain ⟨gs', al3, efl⟩ := FlO.put (f := f) (v := y) (x := x) (by show Ow K F1 _ (fkOf (unpm (O.getD i .sh)) f) y x []; rw [hf]; exact ⟨rfl, dp⟩) (fun v d fp (o : Ow K F1 _ (fkOf (unpm (O.getD i .sh)) f) v d fp) => by rw [hf] at o; exact o.1) al2
          have hdxa : dx ≠ a := fun z => nd1 (by rw [z]; exact List.mem_cons_self)
          have ow4 := ow_ob (k := O.getD i .sh) (cls := cls) hob (upd_same) (by rw [upd_ne hdxa]; exact hdx) hcls al3
          rw [efl] at ow4
          have hl' : i < s1.length := (List.getElem?_eq_some_iff.mp (look_some hd0)).1
          have r4 := r3.again hv ow4 (fun q hq => by
            obtain ⟨h1, h2, h3⟩ := hoff q hq
            refine ⟨h1, ?_, h3, fun j hj => by simp only [if_neg hj]; exact hna q hq j hj⟩
            by_cases z : q = a
            · rw [z, upd_same]; simp
            · rw [upd_ne z]; exact h2) nd
          rw [List.set_set] at r4
          exact p F1 _ σ _ sF r4
        · exact p.elim
      · exact p.elim
    · exact p.elim⟩
end
/-! ### methods, making -/
def noFd (m : Str) (d : D) : Option Unit := match dof d with
  | some l => match fldD m l with
    | none => some ()
    | some _ => none
  | none => none
def mMeth (f : FD) (m : Str) (n j : Nat) (ml : M (List D)) : M D := fun s => match look s j with
  | some e => match noFd m e with
    | some _ => mCall1 f n j ml s
    | none => .no
  | none => .no
def mMake (f : FD) (cls : Str) (n : Nat) (ml : M (List D)) : M D := bnd ml fun xs => fun s => if xs.length = n then (match f (.dict [(.none, .str cls)] :: xs) with
  | .ok .none (e' :: _) => .ok e' s
  | _ => .no) else .no
section
variable {K : Fg} {c : Ctx} {O ps : List Kd} {rk k : Kd} {tl : TA} {ml : M (List D)} {mg : Str → Option Value} {f : FD} {E : XK}
theorem o_meth (j : Nat) {C : Addr} {m cls : Str} (h : DA K c O tl ml) (hk : O.getD j .sh = k ∨ O.getD j .sh = .pm k) (hob : isOb k = true) (hc : clsOf k = [(cls, C)]) (hs : ps.all (· == .sh) = true := by rfl) : DO K c O rk (tMeth C m (spD K mg f (.pm k :: ps) rk) [] E (tVar j) tl) (mMeth f m ps.length j ml) := ⟨fun {F H σ fps ds ds' d} r e Q q => by
  unfold mMeth at e
  split at e
  · rename_i e0 he0
    split at e
    · rename_i u hn
      obtain ⟨w, hw, rest⟩ := (o_call1 (rk := rk) (mg := mg) (f := f) (E := E) j h hk hs).run r e Q q
      obtain ⟨w', hw', ow⟩ := r.slots j e0 (look_some he0)
      rw [hw] at hw'
      cases hw'
      have hu : unpm (O.getD j .sh) = k := by
        rcases hk with h | h
        · rw [h]; cases k <;> first | rfl | cases hob
        · rw [h]; rfl
      obtain ⟨a, C', dx, cls', fs, es, gs, rfl, rfl, hp, hdx, hcls, hfp, al⟩ := ob_ow (by rw [hu]; exact hob) ow
      rw [hu, hc] at hcls
      have hC : C' = C := by
        rw [List.lookup_cons] at hcls
        split at hcls
        · exact (Option.some.inj hcls).symm
        · cases hcls
      subst hC
      have hl : fldD m es = none := by
        unfold noFd at hn
        dsimp only [dof] at hn
        have : fldD m ((PyData.none, PyData.str cls') :: es) = fldD m es := rfl
        rw [this] at hn
        cases z : fldD m es with
        | none => rfl
        | some y => rw [z] at hn; cases hn
      exact ⟨_, hw, a, dx, fs, rfl, hp, al.none hl, rest⟩
    · cases e
  · cases e⟩
theorem o_make {C : Addr} {cls : Str} (h : DA K c O tl ml) (hob : isOb k = true) (hc : clsOf k = [(cls, C)]) (hs : ps.all (· == .sh) = true := by rfl) : DO K c O k (tMake C (spD K mg f (.pm k :: ps) .sh) [] E tl) (mMake f cls ps.length ml) := ⟨fun {F H σ fps ds ds' d} r e Q q => by
  obtain ⟨xs, s1, e1, g1⟩ := bnd_ok e
  split at g1
  · rename_i hl
    split at g1
    · rename_i e' as hff
      cases g1
      refine h.run r e1 _ fun F1 H1 fps1 vs sF r1 al => fun x dx hx hdx hne => ?_
      rw [List.append_nil]
      have ra := r1.allocO hdx (.own x)
      have hx' : upd H1 dx (.own x) x = none := by rw [upd_ne (Ne.symm hne)]; exact hx
      have rb := ra.allocO hx' (.ins C dx [])
      obtain ⟨f1, f2, f3⟩ := r1.fresh hx
      obtain ⟨g1, g2, g3⟩ := r1.fresh hdx
      have hf : ∀ q ∈ [x, dx], F1 q = none ∧ upd (upd H1 dx (.own x)) x (.ins C dx []) q ≠ none ∧ c.H0 q = none ∧ ∀ i, q ∉ fps1 i := fun q hq => by
        rcases List.mem_cons.mp hq with rfl | hq
        · exact ⟨f1, by rw [upd_same]; simp, f2, f3⟩
        · have : q = dx := by simpa using hq
          subst this
          exact ⟨g1, by rw [upd_ne hne, upd_same]; simp, g2, g3⟩
      have hup : unpm k = k := by cases k <;> first | rfl | cases hob
      have ow : Ow K F1 (upd (upd H1 dx (.own x)) x (.ins C dx [])) k (.ref x) (.dict [(.none, .str cls)]) [x, dx] :=
        ow_ob (k := k) (fs := []) (ds := []) (gs := []) (by rw [hup]; exact hob) upd_same (by rw [upd_ne hne, upd_same]) (by rw [hup, hc]; simp) .nil
      refine spD_ok (args_o hs rb.sub al hl ow (fun q hq => ⟨(hf q hq).1, (hf q hq).2.1⟩) (by simp [Ne.symm hne])) hff fun F' H' gps' v fpv o => ?_
      have hkp : ∀ b u, upd (upd H1 dx (.own x)) x (.ins C dx []) b = some u → b ∉ [x, dx] → H' b = some u := fun b u e hn => o.keep b u e (fun i => by
        by_cases z : i = 0
        · simp only [z, if_pos]; exact hn
        · simp only [if_neg z]; simp)
      have r3 : Rel K c O F' H' σ fps1 ds' := by
        refine ⟨o.sub, rb.base.trans o.ext, fun b u e n => ?_, fun b e => rb.live b (o.live0 mv_one b e), fun b u e => ?_, fun i x' hx => ?_, fun i q hq => ?_, rb.nd, rb.dj, rb.par, rb.len⟩
        · refine hkp b u (rb.keep b u e n) fun hb => ?_
          rw [(hf b hb).2.2.1] at e; cases e
        · rcases o.new0 mv_one b u e with h | h
          · exact rb.new b u h
          · exact .inr (rb.live b h)
        · obtain ⟨u, hu, ow⟩ := rb.slots i x' hx
          refine ⟨u, hu, ow_mono o.ext ow fun q hq => ?_⟩
          cases y : upd (upd H1 dx (.own x)) x (.ins C dx []) q with
          | none => exact absurd y (rb.off i q hq).2.1
          | some u => exact hkp q u y fun hb => (hf q hb).2.2.2 i hq
        · obtain ⟨h1, h2, h3⟩ := rb.off i q hq
          refine ⟨?_, fun y => h2 (o.live0 mv_one q y), h3⟩
          cases z : F' q with
          | none => rfl
          | some u =>
            rcases o.new0 mv_one q u z with h | h
            · rw [h1] at h; cases h
            · exact absurd h h2
      obtain ⟨hfp, hv⟩ := o.res
      cases hv
      refine ⟨rfl, ?_⟩
      obtain ⟨u, hu, ow4⟩ := o.ow 0 k d rfl rfl
      cases hu
      refine q F' H' fps1 _ (gps' 0) (sF.trans o.ext) r3 ow4 (fun q hq => ?_) (o.nd 0)
      obtain ⟨h1, h2, h3⟩ := o.off 0 q rfl hq
      have h3' : upd (upd H1 dx (.own x)) x (.ins C dx []) q = none ∨ q ∈ [x, dx] := by
        rcases h3 with h | ⟨i, h⟩
        · exact .inl h
        · by_cases z : i = 0
          · simp only [z, if_pos] at h; exact .inr h
          · simp only [if_neg z] at h; cases h
      refine ⟨h1, h2, ?_, fun i hi => ?_⟩
      · rcases h3' with h | h
        · exact rb.live q h
        · exact (hf q h).2.2.1
      · rcases h3' with h | h
        · exact (rb.off i q hi).2.1 h
        · exact (hf q h).2.2.2 i hi
    · cases g1
  · cases g1⟩
end
/-! ### what these come to -/
section
variable {s : DS} {Nx Bk Ct : DS → Prop} {Ex : Xc → DS → Prop} {Rt : D → DS → Prop}
theorem ev_fld_0 {i : Nat} {f : Str} {Q : D → DS → Prop} : Ev0 (mFld i f) s Q = So0 (look s i) fun d => So0 (dof d) fun l => So0 (fldD f l) fun x => Q x s := by
  unfold Ev0 mFld
  cases look s i with
  | none => rfl
  | some d =>
    dsimp only [So0]
    cases dof d with
    | none => rfl
    | some l =>
      dsimp only [opt]
      cases fldD f l <;> rfl
theorem ev_fld {i : Nat} {f : Str} {Q : D → DS → Prop} : Ev (mFld i f) s Q = So (look s i) fun d => So (dof d) fun l => So (fldD f l) fun x => Q x s := by with_unfolding_all exact ev_fld_0
theorem run_fld_0 {i : Nat} {f : Str} {m : M D} : Run0 (sFldD i f m) s Nx Rt Bk Ct Ex = Ev0 m s fun x s1 => So0 (look s1 i) fun d => So0 (dof d) fun l => decide (l.length ≤ 1000) = true ∧ Nx (s1.set i (some (.dict (putDF f x l)))) := by
  unfold Run0 sFldD Ev0
  cases m s with
  | no => rfl
  | ok x s1 =>
    dsimp only
    cases look s1 i with
    | none => rfl
    | some d =>
      dsimp only [So0]
      cases dof d with
      | none => rfl
      | some l =>
        dsimp only
        cases z : decide (l.length ≤ 1000) <;> simp
theorem run_fld {i : Nat} {f : Str} {m : M D} : Run (sFldD i f m) s Nx Rt Bk Ct Ex = Ev m s fun x s1 => So (look s1 i) fun d => So (dof d) fun l => decide (l.length ≤ 1000) = true ∧ Nx (s1.set i (some (.dict (putDF f x l)))) := by with_unfolding_all exact run_fld_0
theorem xv_meth_0 {f : FD} {m : Str} {n j : Nat} {a : M (List D)} {Q : D → DS → Prop} : Ev0 (mMeth f m n j a) s Q = So0 (look s j) fun e => So0 (noFd m e) fun _ => Ev0 (mCall1 f n j a) s Q := by
  unfold Ev0 mMeth
  cases look s j with
  | none => rfl
  | some e =>
    dsimp only [So0]
    cases noFd m e <;> rfl
theorem xv_meth {f : FD} {m : Str} {n j : Nat} {a : M (List D)} {Q : D → DS → Prop} : Ev (mMeth f m n j a) s Q = So (look s j) fun e => So (noFd m e) fun _ => Ev (mCall1 f n j a) s Q := by with_unfolding_all exact xv_meth_0
def nonO : D → Option Unit
  | .none => some ()
  | _ => none
theorem so_nonO {Q : Unit → Prop} : So (nonO .none) Q = Q () := by with_unfolding_all rfl
theorem xv_make_0 {f : FD} {cls : Str} {n : Nat} {a : M (List D)} {Q : D → DS → Prop} : Ev0 (mMake f cls n a) s Q = Ev0 a s fun xs s' => xs.length = n ∧ Cl0 f (.dict [(.none, .str cls)] :: xs) fun d as => So0 (nonO d) fun _ => So0 (hdO as) fun e' => Q e' s' := by
  unfold mMake; rw [ev_bnd_0]; refine ev_ext_0 fun xs s' => ?_
  dsimp only [Ev0]
  by_cases h : xs.length = n
  · rw [if_pos h]
    refine propext ⟨fun z => ?_, fun z => ?_⟩
    · cases e : f (.dict [(.none, .str cls)] :: xs) with
      | no => rw [e] at z; exact z.elim
      | ex x as => rw [e] at z; exact z.elim
      | ok d as =>
        rw [e] at z
        cases d with
        | none =>
          cases as with
          | nil => exact z.elim
          | cons e' as => exact ⟨h, _, _, e, z⟩
        | _ => exact z.elim
    · obtain ⟨_, d, as, e, z⟩ := z
      rw [e]
      cases d with
      | none =>
        cases as with
        | nil => exact z.elim
        | cons e' as => exact z
      | _ => exact z.elim
  · rw [if_neg h]; simp [h]
theorem xv_make {f : FD} {cls : Str} {n : Nat} {a : M (List D)} {Q : D → DS → Prop} : Ev (mMake f cls n a) s Q = Ev a s fun xs s' => xs.length = n ∧ Cl f (.dict [(.none, .str cls)] :: xs) fun d as => So (nonO d) fun _ => So (hdO as) fun e' => Q e' s' := by with_unfolding_all exact xv_make_0
theorem so_dof {l : List (D × D)} {Q : List (D × D) → Prop} : So (dof (.dict l)) Q = Q l := by with_unfolding_all rfl
theorem so_noFd_0 {m : Str} {l : List (D × D)} {Q : Unit → Prop} (h : fldD m l = none) : So0 (noFd m (.dict l)) Q = Q () := by
  unfold noFd; dsimp only [dof]; rw [h]; rfl
theorem so_noFd {m : Str} {l : List (D × D)} {Q : Unit → Prop} (h : fldD m l = none) : So (noFd m (.dict l)) Q = Q () := by with_unfolding_all exact so_noFd_0 h
theorem fdN {f : Str} : fldD f [] = none := nr rfl
theorem fdC {f : Str} {x : D} {l : List (D × D)} : fldD f ((.none, x) :: l) = fldD f l := nr rfl
theorem fdE {f : Str} {x : D} {l : List (D × D)} : fldD f ((.str f, x) :: l) = some x := if_pos rfl
theorem fdO {f g : Str} {x : D} {l : List (D × D)} (h : (f = g) = False) : fldD f ((.str g, x) :: l) = fldD f l := if_neg (by rw [h]; exact id)
theorem ptN {f : Str} {y : D} : putDF f y [] = [(.str f, y)] := nr rfl
theorem ptC {f : Str} {x y : D} {l : List (D × D)} : putDF f y ((.none, x) :: l) = (.none, x) :: putDF f y l := nr rfl
theorem ptE {f : Str} {x y : D} {l : List (D × D)} : putDF f y ((.str f, x) :: l) = (.str f, y) :: l := if_pos rfl
theorem ptO {f g : Str} {x y : D} {l : List (D × D)} (h : (g = f) = False) : putDF f y ((.str g, x) :: l) = (.str g, x) :: putDF f y l := if_neg (by rw [h]; exact id)
end
end Z
set_option Elab.async false
set_option linter.all false
set_option maxRecDepth 100000
namespace Z
open PySem L2
/-! ### methods of the text -/
def inCls (s : Stmt) (j : Nat) : Stmt := match s with
  | .ClassDef _ _ _ b _ _ _ _ _ _ _ => b.getD j s
  | _ => s
/-- what a caller knows of a method; of a class that is called -/
def FkM (P : Program) (w : World) (K : Fg) (mg : Str → Option Value) (base : Heap) (C : Addr) (m : Str) (k : Nat) (ps : List Str) (sp : Sp) : Prop :=
  ∃ (f : Addr) (fd : FuncData), FnOk P w K mg base CX0 k f fd ps sp ∧ Meth K C m f ∧ Binds K fd ps []
def FkI (P : Program) (w : World) (K : Fg) (mg : Str → Option Value) (base : Heap) (x : Str) (C : Addr) (k : Nat) (ps : List Str) (sp : Sp) : Prop :=
  ∃ (f : Addr) (fd : FuncData), FnOk P w K mg base CX0 k f fd ps sp ∧ Mk K C f ∧ Binds K fd ps [] ∧ mg x = some (.ref C)
abbrev FnQ (K : Fg) (x y : Str) (st : Stmt) (f : Addr) (fd : FuncData) : Prop := FunD K x y (defArgs st) (defBody st) (defScope st) [] [] f fd
theorem fn_okQ {P : Program} {w : World} {K : Fg} {mg : Str → Option Value} {base : Heap} {x y : Str} {st : Stmt} {f : Addr} {fd : FuncData} {N xs : List Str} {ps : List Kd} {rk : Kd} {k : Nat} {b : MS} {O1 : List Kd} (F : FnQ K x y st f fd) (S : FnScope N xs (defScope st)) (hx : xs.length = ps.length) (hN : ps.length ≤ N.length)
    (h : ∀ (cdv : Value) (A : Around) (outer : List Env) (s : Shared) (H : Hp) (E : XK), Room k (A.deeper (PyProof.Rows.envOfC y (defScope st) s.heap.objs.size f cdv)) →
      ∃ t, PSs (cxOf CX0 P w K mg base N y (defScope st) f cdv A outer s H E).nox (defBody st) t ∧ ∀ c : Ctx, c.ps = ps → c.rk = rk → c.mg = mg → DC K c [] (ps ++ List.replicate (N.length - ps.length) .sh) t b O1) :
    FnOk P w K mg base CX0 (k + 1) f fd xs (spD K mg (fnD N.length ps.length rk b) ps rk) := by
  refine F.ok S (fun vs H Q E q => (spD_len q).trans hx.symm) (fun cdv A outer s H vs Q E hr q => ?_)
  obtain ⟨t, p, d⟩ := h cdv A outer s H E hr
  exact ⟨t, p.nox, body_ok rfl E (fun c h1 h2 h3 _ _ => d c h1 h2 h3) q hN⟩
theorem one_cls {K : Fg} {x cls f : Str} {C C' : Addr} (a : Cls K C) (b : NoAttr K C f) (h : List.lookup cls [(x, C)] = some C') : Cls K C' ∧ NoAttr K C' f := by
  rw [List.lookup_cons] at h
  split at h
  · cases h; exact ⟨a, b⟩
  · cases h
/-- a slot's thing, handed over -/
def mMove (i : Nat) : M D := fun s => match s[i]? with
  | some (some d) => .ok d (s.set i none)
  | _ => .no
theorem o_move {K : Fg} {c : Ctx} {O : List Kd} {k : Kd} (i : Nat) (hk : O.getD i .sh = k) (hp : isPm O[i]? = false := by rfl) : DO K c O k (tVar i) (mMove i) := ⟨fun {F H σ fps ds ds' d} r e Q q => by
  unfold mMove at e
  split at e
  · rename_i d0 hd
    cases e
    obtain ⟨v, hv, ow⟩ := r.slots i d hd
    rw [hk] at ow
    refine ⟨v, hv, q F H _ v (fps i) (Same.refl _) (r.aside i) ow (fun q hq => ?_) (r.nd i)⟩
    obtain ⟨h1, h2, h3⟩ := r.off i q hq
    refine ⟨h1, h2, ?_, fun j hj => ?_⟩
    · rcases h3 with h | ⟨_, h⟩
      · exact h
      · rw [hp] at h; cases h
    · by_cases z : j = i
      · simp only [if_pos z] at hj; cases hj
      · simp only [if_neg z] at hj; exact r.dj j i z q hj hq
  · cases e⟩
theorem ev_move_0 {s : DS} {i : Nat} {Q : D → DS → Prop} : Ev0 (mMove i) s Q = So0 (look s i) fun d => Q d (s.set i none) := by
  unfold Ev0 mMove look
  cases s[i]? with
  | none => rfl
  | some o => cases o <;> rfl
theorem ev_move {s : DS} {i : Nat} {Q : D → DS → Prop} : Ev (mMove i) s Q = So (look s i) fun d => Q d (s.set i none) := by with_unfolding_all exact ev_move_0
end Z
set_option Elab.async false
set_option linter.all false
set_option maxRecDepth 100000
namespace Z
open PySem L2
theorem map_inj {α β : Type} {f : α → β} (hf : ∀ a b, f a = f b → a = b) : ∀ {l l' : List α}, l.map f = l'.map f → l = l'
  | [], [], _ => rfl
  | [], _ :: _, h => by cases h
  | _ :: _, [], h => by cases h
  | a :: l, b :: l', h => by
    rw [List.map_cons, List.map_cons] at h
    injection h with h1 h2
    rw [hf a b h1, map_inj hf h2]
theorem strE {a b : String} : (Str.ofString a = Str.ofString b) = (a = b) := propext ⟨fun h => by
  rw [Str.ofString_eq_toList, Str.ofString_eq_toList] at h
  injection h with h
  have h2 : a.toList.map Char.toNat = b.toList.map Char.toNat := by simpa using h
  have h3 : a.toList = b.toList := map_inj (fun x y e => Char.toNat_inj.mp e) h2
  exact String.toList_inj.mp h3, fun h => by rw [h]⟩
theorem nm_ahead_end : (Str.ofString "ahead" = Str.ofString "end") = False := by rw [strE]; exact eq_false (by decide)
theorem nm_ahead_ended : (Str.ofString "ahead" = Str.ofString "ended") = False := by rw [strE]; exact eq_false (by decide)
theorem nm_ahead_figures : (Str.ofString "ahead" = Str.ofString "figures") = False := by rw [strE]; exact eq_false (by decide)
theorem nm_ahead_is_figure : (Str.ofString "ahead" = Str.ofString "is_figure") = False := by rw [strE]; exact eq_false (by decide)
theorem nm_ahead_kind : (Str.ofString "ahead" = Str.ofString "kind") = False := by rw [strE]; exact eq_false (by decide)
theorem nm_ahead_last : (Str.ofString "ahead" = Str.ofString "last") = False := by rw [strE]; exact eq_false (by decide)
theorem nm_ahead_parted : (Str.ofString "ahead" = Str.ofString "parted") = False := by rw [strE]; exact eq_false (by decide)
theorem nm_ahead_put : (Str.ofString "ahead" = Str.ofString "put") = False := by rw [strE]; exact eq_false (by decide)
theorem nm_ahead_told : (Str.ofString "ahead" = Str.ofString "told") = False := by rw [strE]; exact eq_false (by decide)
theorem nm_ask_cell_kind : (Str.ofString "ask_cell" = Str.ofString "kind") = False := by rw [strE]; exact eq_false (by decide)
theorem nm_ask_cell_looks : (Str.ofString "ask_cell" = Str.ofString "looks") = False := by rw [strE]; exact eq_false (by decide)
theorem nm_ask_cell_sight : (Str.ofString "ask_cell" = Str.ofString "sight") = False := by rw [strE]; exact eq_false (by decide)
theorem nm_ask_cell_table : (Str.ofString "ask_cell" = Str.ofString "table") = False := by rw [strE]; exact eq_false (by decide)
theorem nm_base_below : (Str.ofString "base" = Str.ofString "below") = False := by rw [strE]; exact eq_false (by decide)
theorem nm_base_held : (Str.ofString "base" = Str.ofString "held") = False := by rw [strE]; exact eq_false (by decide)
theorem nm_base_put : (Str.ofString "base" = Str.ofString "put") = False := by rw [strE]; exact eq_false (by decide)
theorem nm_base_under : (Str.ofString "base" = Str.ofString "under") = False := by rw [strE]; exact eq_false (by decide)
theorem nm_base_upper : (Str.ofString "base" = Str.ofString "upper") = False := by rw [strE]; exact eq_false (by decide)
theorem nm_begin_done : (Str.ofString "begin" = Str.ofString "done") = False := by rw [strE]; exact eq_false (by decide)
theorem nm_begin_figures : (Str.ofString "begin" = Str.ofString "figures") = False := by rw [strE]; exact eq_false (by decide)
theorem nm_begin_great : (Str.ofString "begin" = Str.ofString "great") = False := by rw [strE]; exact eq_false (by decide)
theorem nm_begin_kind : (Str.ofString "begin" = Str.ofString "kind") = False := by rw [strE]; exact eq_false (by decide)
theorem nm_begin_left : (Str.ofString "begin" = Str.ofString "left") = False := by rw [strE]; exact eq_false (by decide)
theorem nm_begin_looks : (Str.ofString "begin" = Str.ofString "looks") = False := by rw [strE]; exact eq_false (by decide)
theorem nm_begin_numbers : (Str.ofString "begin" = Str.ofString "numbers") = False := by rw [strE]; exact eq_false (by decide)
theorem nm_begin_rows : (Str.ofString "begin" = Str.ofString "rows") = False := by rw [strE]; exact eq_false (by decide)
theorem nm_begin_seen : (Str.ofString "begin" = Str.ofString "seen") = False := by rw [strE]; exact eq_false (by decide)
theorem nm_begin_stand : (Str.ofString "begin" = Str.ofString "stand") = False := by rw [strE]; exact eq_false (by decide)
theorem nm_begin_wide : (Str.ofString "begin" = Str.ofString "wide") = False := by rw [strE]; exact eq_false (by decide)
theorem nm_begin_works : (Str.ofString "begin" = Str.ofString "works") = False := by rw [strE]; exact eq_false (by decide)
theorem nm_begin_rows_done : (Str.ofString "begin_rows" = Str.ofString "done") = False := by rw [strE]; exact eq_false (by decide)
theorem nm_begin_rows_kind : (Str.ofString "begin_rows" = Str.ofString "kind") = False := by rw [strE]; exact eq_false (by decide)
theorem nm_begin_rows_looks : (Str.ofString "begin_rows" = Str.ofString "looks") = False := by rw [strE]; exact eq_false (by decide)
theorem nm_begin_rows_rows : (Str.ofString "begin_rows" = Str.ofString "rows") = False := by rw [strE]; exact eq_false (by decide)
theorem nm_begin_rows_seen : (Str.ofString "begin_rows" = Str.ofString "seen") = False := by rw [strE]; exact eq_false (by decide)
theorem nm_begin_rows_works : (Str.ofString "begin_rows" = Str.ofString "works") = False := by rw [strE]; exact eq_false (by decide)
theorem nm_below_base : (Str.ofString "below" = Str.ofString "base") = False := by rw [strE]; exact eq_false (by decide)
theorem nm_below_under : (Str.ofString "below" = Str.ofString "under") = False := by rw [strE]; exact eq_false (by decide)
theorem nm_below_upper : (Str.ofString "below" = Str.ofString "upper") = False := by rw [strE]; exact eq_false (by decide)
theorem nm_deeds_done : (Str.ofString "deeds" = Str.ofString "done") = False := by rw [strE]; exact eq_false (by decide)
theorem nm_deeds_kind : (Str.ofString "deeds" = Str.ofString "kind") = False := by rw [strE]; exact eq_false (by decide)
theorem nm_deeds_looks : (Str.ofString "deeds" = Str.ofString "looks") = False := by rw [strE]; exact eq_false (by decide)
theorem nm_deeds_rows : (Str.ofString "deeds" = Str.ofString "rows") = False := by rw [strE]; exact eq_false (by decide)
theorem nm_deeds_seen : (Str.ofString "deeds" = Str.ofString "seen") = False := by rw [strE]; exact eq_false (by decide)
theorem nm_deeds_works : (Str.ofString "deeds" = Str.ofString "works") = False := by rw [strE]; exact eq_false (by decide)
theorem nm_divided_kind : (Str.ofString "divided" = Str.ofString "kind") = False := by rw [strE]; exact eq_false (by decide)
theorem nm_divided_looks : (Str.ofString "divided" = Str.ofString "looks") = False := by rw [strE]; exact eq_false (by decide)
theorem nm_divided_sight : (Str.ofString "divided" = Str.ofString "sight") = False := by rw [strE]; exact eq_false (by decide)
theorem nm_divided_table : (Str.ofString "divided" = Str.ofString "table") = False := by rw [strE]; exact eq_false (by decide)
theorem nm_done_begin : (Str.ofString "done" = Str.ofString "begin") = False := by rw [strE]; exact eq_false (by decide)
theorem nm_done_begin_rows : (Str.ofString "done" = Str.ofString "begin_rows") = False := by rw [strE]; exact eq_false (by decide)
theorem nm_done_deeds : (Str.ofString "done" = Str.ofString "deeds") = False := by rw [strE]; exact eq_false (by decide)
theorem nm_done_entries : (Str.ofString "done" = Str.ofString "entries") = False := by rw [strE]; exact eq_false (by decide)
theorem nm_done_go : (Str.ofString "done" = Str.ofString "go") = False := by rw [strE]; exact eq_false (by decide)
theorem nm_done_kind : (Str.ofString "done" = Str.ofString "kind") = False := by rw [strE]; exact eq_false (by decide)
theorem nm_done_looked : (Str.ofString "done" = Str.ofString "looked") = False := by rw [strE]; exact eq_false (by decide)
theorem nm_done_looks : (Str.ofString "done" = Str.ofString "looks") = False := by rw [strE]; exact eq_false (by decide)
theorem nm_done_put : (Str.ofString "done" = Str.ofString "put") = False := by rw [strE]; exact eq_false (by decide)
theorem nm_done_rest : (Str.ofString "done" = Str.ofString "rest") = False := by rw [strE]; exact eq_false (by decide)
theorem nm_done_row : (Str.ofString "done" = Str.ofString "row") = False := by rw [strE]; exact eq_false (by decide)
theorem nm_done_rows : (Str.ofString "done" = Str.ofString "rows") = False := by rw [strE]; exact eq_false (by decide)
theorem nm_done_seen : (Str.ofString "done" = Str.ofString "seen") = False := by rw [strE]; exact eq_false (by decide)
theorem nm_done_work : (Str.ofString "done" = Str.ofString "work") = False := by rw [strE]; exact eq_false (by decide)
theorem nm_done_works : (Str.ofString "done" = Str.ofString "works") = False := by rw [strE]; exact eq_false (by decide)
theorem nm_done_wrong : (Str.ofString "done" = Str.ofString "wrong") = False := by rw [strE]; exact eq_false (by decide)
theorem nm_end_ahead : (Str.ofString "end" = Str.ofString "ahead") = False := by rw [strE]; exact eq_false (by decide)
theorem nm_end_ended : (Str.ofString "end" = Str.ofString "ended") = False := by rw [strE]; exact eq_false (by decide)
theorem nm_end_figures : (Str.ofString "end" = Str.ofString "figures") = False := by rw [strE]; exact eq_false (by decide)
theorem nm_end_kind : (Str.ofString "end" = Str.ofString "kind") = False := by rw [strE]; exact eq_false (by decide)
theorem nm_end_last : (Str.ofString "end" = Str.ofString "last") = False := by rw [strE]; exact eq_false (by decide)
theorem nm_ended_ahead : (Str.ofString "ended" = Str.ofString "ahead") = False := by rw [strE]; exact eq_false (by decide)
theorem nm_ended_end : (Str.ofString "ended" = Str.ofString "end") = False := by rw [strE]; exact eq_false (by decide)
theorem nm_ended_figures : (Str.ofString "ended" = Str.ofString "figures") = False := by rw [strE]; exact eq_false (by decide)
theorem nm_ended_is_figure : (Str.ofString "ended" = Str.ofString "is_figure") = False := by rw [strE]; exact eq_false (by decide)
theorem nm_ended_kind : (Str.ofString "ended" = Str.ofString "kind") = False := by rw [strE]; exact eq_false (by decide)
theorem nm_ended_last : (Str.ofString "ended" = Str.ofString "last") = False := by rw [strE]; exact eq_false (by decide)
theorem nm_ended_parted : (Str.ofString "ended" = Str.ofString "parted") = False := by rw [strE]; exact eq_false (by decide)
theorem nm_ended_put : (Str.ofString "ended" = Str.ofString "put") = False := by rw [strE]; exact eq_false (by decide)
theorem nm_ended_told : (Str.ofString "ended" = Str.ofString "told") = False := by rw [strE]; exact eq_false (by decide)
theorem nm_entered_kind : (Str.ofString "entered" = Str.ofString "kind") = False := by rw [strE]; exact eq_false (by decide)
theorem nm_entered_looks : (Str.ofString "entered" = Str.ofString "looks") = False := by rw [strE]; exact eq_false (by decide)
theorem nm_entered_sight : (Str.ofString "entered" = Str.ofString "sight") = False := by rw [strE]; exact eq_false (by decide)
theorem nm_entered_table : (Str.ofString "entered" = Str.ofString "table") = False := by rw [strE]; exact eq_false (by decide)
theorem nm_entries_done : (Str.ofString "entries" = Str.ofString "done") = False := by rw [strE]; exact eq_false (by decide)
theorem nm_entries_kind : (Str.ofString "entries" = Str.ofString "kind") = False := by rw [strE]; exact eq_false (by decide)
theorem nm_entries_looks : (Str.ofString "entries" = Str.ofString "looks") = False := by rw [strE]; exact eq_false (by decide)
theorem nm_entries_rows : (Str.ofString "entries" = Str.ofString "rows") = False := by rw [strE]; exact eq_false (by decide)
theorem nm_entries_seen : (Str.ofString "entries" = Str.ofString "seen") = False := by rw [strE]; exact eq_false (by decide)
theorem nm_entries_works : (Str.ofString "entries" = Str.ofString "works") = False := by rw [strE]; exact eq_false (by decide)
theorem nm_figures_ahead : (Str.ofString "figures" = Str.ofString "ahead") = False := by rw [strE]; exact eq_false (by decide)
theorem nm_figures_begin : (Str.ofString "figures" = Str.ofString "begin") = False := by rw [strE]; exact eq_false (by decide)
theorem nm_figures_end : (Str.ofString "figures" = Str.ofString "end") = False := by rw [strE]; exact eq_false (by decide)
theorem nm_figures_ended : (Str.ofString "figures" = Str.ofString "ended") = False := by rw [strE]; exact eq_false (by decide)
theorem nm_figures_great : (Str.ofString "figures" = Str.ofString "great") = False := by rw [strE]; exact eq_false (by decide)
theorem nm_figures_is_figure : (Str.ofString "figures" = Str.ofString "is_figure") = False := by rw [strE]; exact eq_false (by decide)
theorem nm_figures_kind : (Str.ofString "figures" = Str.ofString "kind") = False := by rw [strE]; exact eq_false (by decide)
theorem nm_figures_last : (Str.ofString "figures" = Str.ofString "last") = False := by rw [strE]; exact eq_false (by decide)
theorem nm_figures_left : (Str.ofString "figures" = Str.ofString "left") = False := by rw [strE]; exact eq_false (by decide)
theorem nm_figures_looks : (Str.ofString "figures" = Str.ofString "looks") = False := by rw [strE]; exact eq_false (by decide)
theorem nm_figures_numbers : (Str.ofString "figures" = Str.ofString "numbers") = False := by rw [strE]; exact eq_false (by decide)
theorem nm_figures_parted : (Str.ofString "figures" = Str.ofString "parted") = False := by rw [strE]; exact eq_false (by decide)
theorem nm_figures_put : (Str.ofString "figures" = Str.ofString "put") = False := by rw [strE]; exact eq_false (by decide)
theorem nm_figures_rest : (Str.ofString "figures" = Str.ofString "rest") = False := by rw [strE]; exact eq_false (by decide)
theorem nm_figures_stand : (Str.ofString "figures" = Str.ofString "stand") = False := by rw [strE]; exact eq_false (by decide)
theorem nm_figures_told : (Str.ofString "figures" = Str.ofString "told") = False := by rw [strE]; exact eq_false (by decide)
theorem nm_figures_tried : (Str.ofString "figures" = Str.ofString "tried") = False := by rw [strE]; exact eq_false (by decide)
theorem nm_figures_wide : (Str.ofString "figures" = Str.ofString "wide") = False := by rw [strE]; exact eq_false (by decide)
theorem nm_go_done : (Str.ofString "go" = Str.ofString "done") = False := by rw [strE]; exact eq_false (by decide)
theorem nm_go_kind : (Str.ofString "go" = Str.ofString "kind") = False := by rw [strE]; exact eq_false (by decide)
theorem nm_go_looks : (Str.ofString "go" = Str.ofString "looks") = False := by rw [strE]; exact eq_false (by decide)
theorem nm_go_rows : (Str.ofString "go" = Str.ofString "rows") = False := by rw [strE]; exact eq_false (by decide)
theorem nm_go_seen : (Str.ofString "go" = Str.ofString "seen") = False := by rw [strE]; exact eq_false (by decide)
theorem nm_go_works : (Str.ofString "go" = Str.ofString "works") = False := by rw [strE]; exact eq_false (by decide)
theorem nm_great_begin : (Str.ofString "great" = Str.ofString "begin") = False := by rw [strE]; exact eq_false (by decide)
theorem nm_great_figures : (Str.ofString "great" = Str.ofString "figures") = False := by rw [strE]; exact eq_false (by decide)
theorem nm_great_kind : (Str.ofString "great" = Str.ofString "kind") = False := by rw [strE]; exact eq_false (by decide)
theorem nm_great_left : (Str.ofString "great" = Str.ofString "left") = False := by rw [strE]; exact eq_false (by decide)
theorem nm_great_looks : (Str.ofString "great" = Str.ofString "looks") = False := by rw [strE]; exact eq_false (by decide)
theorem nm_great_numbers : (Str.ofString "great" = Str.ofString "numbers") = False := by rw [strE]; exact eq_false (by decide)
theorem nm_great_rest : (Str.ofString "great" = Str.ofString "rest") = False := by rw [strE]; exact eq_false (by decide)
theorem nm_great_stand : (Str.ofString "great" = Str.ofString "stand") = False := by rw [strE]; exact eq_false (by decide)
theorem nm_great_tried : (Str.ofString "great" = Str.ofString "tried") = False := by rw [strE]; exact eq_false (by decide)
theorem nm_great_wide : (Str.ofString "great" = Str.ofString "wide") = False := by rw [strE]; exact eq_false (by decide)
theorem nm_held_base : (Str.ofString "held" = Str.ofString "base") = False := by rw [strE]; exact eq_false (by decide)
theorem nm_held_under : (Str.ofString "held" = Str.ofString "under") = False := by rw [strE]; exact eq_false (by decide)
theorem nm_held_upper : (Str.ofString "held" = Str.ofString "upper") = False := by rw [strE]; exact eq_false (by decide)
theorem nm_is_figure_ahead : (Str.ofString "is_figure" = Str.ofString "ahead") = False := by rw [strE]; exact eq_false (by decide)
theorem nm_is_figure_ended : (Str.ofString "is_figure" = Str.ofString "ended") = False := by rw [strE]; exact eq_false (by decide)
theorem nm_is_figure_figures : (Str.ofString "is_figure" = Str.ofString "figures") = False := by rw [strE]; exact eq_false (by decide)
theorem nm_is_figure_kind : (Str.ofString "is_figure" = Str.ofString "kind") = False := by rw [strE]; exact eq_false (by decide)
theorem nm_is_figure_last : (Str.ofString "is_figure" = Str.ofString "last") = False := by rw [strE]; exact eq_false (by decide)
theorem nm_kind_ahead : (Str.ofString "kind" = Str.ofString "ahead") = False := by rw [strE]; exact eq_false (by decide)
theorem nm_kind_ask_cell : (Str.ofString "kind" = Str.ofString "ask_cell") = False := by rw [strE]; exact eq_false (by decide)
theorem nm_kind_begin : (Str.ofString "kind" = Str.ofString "begin") = False := by rw [strE]; exact eq_false (by decide)
theorem nm_kind_begin_rows : (Str.ofString "kind" = Str.ofString "begin_rows") = False := by rw [strE]; exact eq_false (by decide)
theorem nm_kind_deeds : (Str.ofString "kind" = Str.ofString "deeds") = False := by rw [strE]; exact eq_false (by decide)
theorem nm_kind_divided : (Str.ofString "kind" = Str.ofString "divided") = False := by rw [strE]; exact eq_false (by decide)
theorem nm_kind_done : (Str.ofString "kind" = Str.ofString "done") = False := by rw [strE]; exact eq_false (by decide)
theorem nm_kind_end : (Str.ofString "kind" = Str.ofString "end") = False := by rw [strE]; exact eq_false (by decide)
theorem nm_kind_ended : (Str.ofString "kind" = Str.ofString "ended") = False := by rw [strE]; exact eq_false (by decide)
theorem nm_kind_entered : (Str.ofString "kind" = Str.ofString "entered") = False := by rw [strE]; exact eq_false (by decide)
theorem nm_kind_entries : (Str.ofString "kind" = Str.ofString "entries") = False := by rw [strE]; exact eq_false (by decide)
theorem nm_kind_figures : (Str.ofString "kind" = Str.ofString "figures") = False := by rw [strE]; exact eq_false (by decide)
theorem nm_kind_go : (Str.ofString "kind" = Str.ofString "go") = False := by rw [strE]; exact eq_false (by decide)
theorem nm_kind_great : (Str.ofString "kind" = Str.ofString "great") = False := by rw [strE]; exact eq_false (by decide)
theorem nm_kind_is_figure : (Str.ofString "kind" = Str.ofString "is_figure") = False := by rw [strE]; exact eq_false (by decide)
theorem nm_kind_last : (Str.ofString "kind" = Str.ofString "last") = False := by rw [strE]; exact eq_false (by decide)
theorem nm_kind_left : (Str.ofString "kind" = Str.ofString "left") = False := by rw [strE]; exact eq_false (by decide)
theorem nm_kind_looked : (Str.ofString "kind" = Str.ofString "looked") = False := by rw [strE]; exact eq_false (by decide)
theorem nm_kind_looks : (Str.ofString "kind" = Str.ofString "looks") = False := by rw [strE]; exact eq_false (by decide)
theorem nm_kind_numbers : (Str.ofString "kind" = Str.ofString "numbers") = False := by rw [strE]; exact eq_false (by decide)
theorem nm_kind_parted : (Str.ofString "kind" = Str.ofString "parted") = False := by rw [strE]; exact eq_false (by decide)
theorem nm_kind_put : (Str.ofString "kind" = Str.ofString "put") = False := by rw [strE]; exact eq_false (by decide)
theorem nm_kind_put_all : (Str.ofString "kind" = Str.ofString "put_all") = False := by rw [strE]; exact eq_false (by decide)
theorem nm_kind_rest : (Str.ofString "kind" = Str.ofString "rest") = False := by rw [strE]; exact eq_false (by decide)
theorem nm_kind_row : (Str.ofString "kind" = Str.ofString "row") = False := by rw [strE]; exact eq_false (by decide)
theorem nm_kind_rows : (Str.ofString "kind" = Str.ofString "rows") = False := by rw [strE]; exact eq_false (by decide)
theorem nm_kind_say : (Str.ofString "kind" = Str.ofString "say") = False := by rw [strE]; exact eq_false (by decide)
theorem nm_kind_seen : (Str.ofString "kind" = Str.ofString "seen") = False := by rw [strE]; exact eq_false (by decide)
theorem nm_kind_sight : (Str.ofString "kind" = Str.ofString "sight") = False := by rw [strE]; exact eq_false (by decide)
theorem nm_kind_stand : (Str.ofString "kind" = Str.ofString "stand") = False := by rw [strE]; exact eq_false (by decide)
theorem nm_kind_table : (Str.ofString "kind" = Str.ofString "table") = False := by rw [strE]; exact eq_false (by decide)
theorem nm_kind_told : (Str.ofString "kind" = Str.ofString "told") = False := by rw [strE]; exact eq_false (by decide)
theorem nm_kind_tried : (Str.ofString "kind" = Str.ofString "tried") = False := by rw [strE]; exact eq_false (by decide)
theorem nm_kind_turned : (Str.ofString "kind" = Str.ofString "turned") = False := by rw [strE]; exact eq_false (by decide)
theorem nm_kind_wide : (Str.ofString "kind" = Str.ofString "wide") = False := by rw [strE]; exact eq_false (by decide)
theorem nm_kind_work : (Str.ofString "kind" = Str.ofString "work") = False := by rw [strE]; exact eq_false (by decide)
theorem nm_kind_works : (Str.ofString "kind" = Str.ofString "works") = False := by rw [strE]; exact eq_false (by decide)
theorem nm_kind_wrong : (Str.ofString "kind" = Str.ofString "wrong") = False := by rw [strE]; exact eq_false (by decide)
theorem nm_last_ahead : (Str.ofString "last" = Str.ofString "ahead") = False := by rw [strE]; exact eq_false (by decide)
theorem nm_last_end : (Str.ofString "last" = Str.ofString "end") = False := by rw [strE]; exact eq_false (by decide)
theorem nm_last_ended : (Str.ofString "last" = Str.ofString "ended") = False := by rw [strE]; exact eq_false (by decide)
theorem nm_last_figures : (Str.ofString "last" = Str.ofString "figures") = False := by rw [strE]; exact eq_false (by decide)
theorem nm_last_is_figure : (Str.ofString "last" = Str.ofString "is_figure") = False := by rw [strE]; exact eq_false (by decide)
theorem nm_last_kind : (Str.ofString "last" = Str.ofString "kind") = False := by rw [strE]; exact eq_false (by decide)
theorem nm_last_parted : (Str.ofString "last" = Str.ofString "parted") = False := by rw [strE]; exact eq_false (by decide)
theorem nm_last_put : (Str.ofString "last" = Str.ofString "put") = False := by rw [strE]; exact eq_false (by decide)
theorem nm_last_told : (Str.ofString "last" = Str.ofString "told") = False := by rw [strE]; exact eq_false (by decide)
theorem nm_left_begin : (Str.ofString "left" = Str.ofString "begin") = False := by rw [strE]; exact eq_false (by decide)
theorem nm_left_figures : (Str.ofString "left" = Str.ofString "figures") = False := by rw [strE]; exact eq_false (by decide)
theorem nm_left_great : (Str.ofString "left" = Str.ofString "great") = False := by rw [strE]; exact eq_false (by decide)
theorem nm_left_kind : (Str.ofString "left" = Str.ofString "kind") = False := by rw [strE]; exact eq_false (by decide)
theorem nm_left_looks : (Str.ofString "left" = Str.ofString "looks") = False := by rw [strE]; exact eq_false (by decide)
theorem nm_left_numbers : (Str.ofString "left" = Str.ofString "numbers") = False := by rw [strE]; exact eq_false (by decide)
theorem nm_left_rest : (Str.ofString "left" = Str.ofString "rest") = False := by rw [strE]; exact eq_false (by decide)
theorem nm_left_stand : (Str.ofString "left" = Str.ofString "stand") = False := by rw [strE]; exact eq_false (by decide)
theorem nm_left_tried : (Str.ofString "left" = Str.ofString "tried") = False := by rw [strE]; exact eq_false (by decide)
theorem nm_left_wide : (Str.ofString "left" = Str.ofString "wide") = False := by rw [strE]; exact eq_false (by decide)
theorem nm_look_top : (Str.ofString "look" = Str.ofString "top") = False := by rw [strE]; exact eq_false (by decide)
theorem nm_looked_done : (Str.ofString "looked" = Str.ofString "done") = False := by rw [strE]; exact eq_false (by decide)
theorem nm_looked_kind : (Str.ofString "looked" = Str.ofString "kind") = False := by rw [strE]; exact eq_false (by decide)
theorem nm_looked_looks : (Str.ofString "looked" = Str.ofString "looks") = False := by rw [strE]; exact eq_false (by decide)
theorem nm_looked_rows : (Str.ofString "looked" = Str.ofString "rows") = False := by rw [strE]; exact eq_false (by decide)
theorem nm_looked_seen : (Str.ofString "looked" = Str.ofString "seen") = False := by rw [strE]; exact eq_false (by decide)
theorem nm_looked_sight : (Str.ofString "looked" = Str.ofString "sight") = False := by rw [strE]; exact eq_false (by decide)
theorem nm_looked_table : (Str.ofString "looked" = Str.ofString "table") = False := by rw [strE]; exact eq_false (by decide)
theorem nm_looked_works : (Str.ofString "looked" = Str.ofString "works") = False := by rw [strE]; exact eq_false (by decide)
theorem nm_looks_ask_cell : (Str.ofString "looks" = Str.ofString "ask_cell") = False := by rw [strE]; exact eq_false (by decide)
theorem nm_looks_begin : (Str.ofString "looks" = Str.ofString "begin") = False := by rw [strE]; exact eq_false (by decide)
theorem nm_looks_begin_rows : (Str.ofString "looks" = Str.ofString "begin_rows") = False := by rw [strE]; exact eq_false (by decide)
theorem nm_looks_deeds : (Str.ofString "looks" = Str.ofString "deeds") = False := by rw [strE]; exact eq_false (by decide)
theorem nm_looks_divided : (Str.ofString "looks" = Str.ofString "divided") = False := by rw [strE]; exact eq_false (by decide)
theorem nm_looks_done : (Str.ofString "looks" = Str.ofString "done") = False := by rw [strE]; exact eq_false (by decide)
theorem nm_looks_entered : (Str.ofString "looks" = Str.ofString "entered") = False := by rw [strE]; exact eq_false (by decide)
theorem nm_looks_entries : (Str.ofString "looks" = Str.ofString "entries") = False := by rw [strE]; exact eq_false (by decide)
theorem nm_looks_figures : (Str.ofString "looks" = Str.ofString "figures") = False := by rw [strE]; exact eq_false (by decide)
theorem nm_looks_go : (Str.ofString "looks" = Str.ofString "go") = False := by rw [strE]; exact eq_false (by decide)
theorem nm_looks_great : (Str.ofString "looks" = Str.ofString "great") = False := by rw [strE]; exact eq_false (by decide)
theorem nm_looks_kind : (Str.ofString "looks" = Str.ofString "kind") = False := by rw [strE]; exact eq_false (by decide)
theorem nm_looks_left : (Str.ofString "looks" = Str.ofString "left") = False := by rw [strE]; exact eq_false (by decide)
theorem nm_looks_looked : (Str.ofString "looks" = Str.ofString "looked") = False := by rw [strE]; exact eq_false (by decide)
theorem nm_looks_numbers : (Str.ofString "looks" = Str.ofString "numbers") = False := by rw [strE]; exact eq_false (by decide)
theorem nm_looks_put : (Str.ofString "looks" = Str.ofString "put") = False := by rw [strE]; exact eq_false (by decide)
theorem nm_looks_put_all : (Str.ofString "looks" = Str.ofString "put_all") = False := by rw [strE]; exact eq_false (by decide)
theorem nm_looks_rest : (Str.ofString "looks" = Str.ofString "rest") = False := by rw [strE]; exact eq_false (by decide)
theorem nm_looks_row : (Str.ofString "looks" = Str.ofString "row") = False := by rw [strE]; exact eq_false (by decide)
theorem nm_looks_rows : (Str.ofString "looks" = Str.ofString "rows") = False := by rw [strE]; exact eq_false (by decide)
theorem nm_looks_say : (Str.ofString "looks" = Str.ofString "say") = False := by rw [strE]; exact eq_false (by decide)
theorem nm_looks_seen : (Str.ofString "looks" = Str.ofString "seen") = False := by rw [strE]; exact eq_false (by decide)
theorem nm_looks_sight : (Str.ofString "looks" = Str.ofString "sight") = False := by rw [strE]; exact eq_false (by decide)
theorem nm_looks_stand : (Str.ofString "looks" = Str.ofString "stand") = False := by rw [strE]; exact eq_false (by decide)
theorem nm_looks_table : (Str.ofString "looks" = Str.ofString "table") = False := by rw [strE]; exact eq_false (by decide)
theorem nm_looks_told : (Str.ofString "looks" = Str.ofString "told") = False := by rw [strE]; exact eq_false (by decide)
theorem nm_looks_tried : (Str.ofString "looks" = Str.ofString "tried") = False := by rw [strE]; exact eq_false (by decide)
theorem nm_looks_turned : (Str.ofString "looks" = Str.ofString "turned") = False := by rw [strE]; exact eq_false (by decide)
theorem nm_looks_wide : (Str.ofString "looks" = Str.ofString "wide") = False := by rw [strE]; exact eq_false (by decide)
theorem nm_looks_work : (Str.ofString "looks" = Str.ofString "work") = False := by rw [strE]; exact eq_false (by decide)
theorem nm_looks_works : (Str.ofString "looks" = Str.ofString "works") = False := by rw [strE]; exact eq_false (by decide)
theorem nm_looks_wrong : (Str.ofString "looks" = Str.ofString "wrong") = False := by rw [strE]; exact eq_false (by decide)
theorem nm_numbers_begin : (Str.ofString "numbers" = Str.ofString "begin") = False := by rw [strE]; exact eq_false (by decide)
theorem nm_numbers_figures : (Str.ofString "numbers" = Str.ofString "figures") = False := by rw [strE]; exact eq_false (by decide)
theorem nm_numbers_great : (Str.ofString "numbers" = Str.ofString "great") = False := by rw [strE]; exact eq_false (by decide)
theorem nm_numbers_kind : (Str.ofString "numbers" = Str.ofString "kind") = False := by rw [strE]; exact eq_false (by decide)
theorem nm_numbers_left : (Str.ofString "numbers" = Str.ofString "left") = False := by rw [strE]; exact eq_false (by decide)
theorem nm_numbers_looks : (Str.ofString "numbers" = Str.ofString "looks") = False := by rw [strE]; exact eq_false (by decide)
theorem nm_numbers_rest : (Str.ofString "numbers" = Str.ofString "rest") = False := by rw [strE]; exact eq_false (by decide)
theorem nm_numbers_stand : (Str.ofString "numbers" = Str.ofString "stand") = False := by rw [strE]; exact eq_false (by decide)
theorem nm_numbers_tried : (Str.ofString "numbers" = Str.ofString "tried") = False := by rw [strE]; exact eq_false (by decide)
theorem nm_numbers_wide : (Str.ofString "numbers" = Str.ofString "wide") = False := by rw [strE]; exact eq_false (by decide)
theorem nm_parted_ahead : (Str.ofString "parted" = Str.ofString "ahead") = False := by rw [strE]; exact eq_false (by decide)
theorem nm_parted_ended : (Str.ofString "parted" = Str.ofString "ended") = False := by rw [strE]; exact eq_false (by decide)
theorem nm_parted_figures : (Str.ofString "parted" = Str.ofString "figures") = False := by rw [strE]; exact eq_false (by decide)
theorem nm_parted_kind : (Str.ofString "parted" = Str.ofString "kind") = False := by rw [strE]; exact eq_false (by decide)
theorem nm_parted_last : (Str.ofString "parted" = Str.ofString "last") = False := by rw [strE]; exact eq_false (by decide)
theorem nm_put_ahead : (Str.ofString "put" = Str.ofString "ahead") = False := by rw [strE]; exact eq_false (by decide)
theorem nm_put_base : (Str.ofString "put" = Str.ofString "base") = False := by rw [strE]; exact eq_false (by decide)
theorem nm_put_done : (Str.ofString "put" = Str.ofString "done") = False := by rw [strE]; exact eq_false (by decide)
theorem nm_put_ended : (Str.ofString "put" = Str.ofString "ended") = False := by rw [strE]; exact eq_false (by decide)
theorem nm_put_figures : (Str.ofString "put" = Str.ofString "figures") = False := by rw [strE]; exact eq_false (by decide)
theorem nm_put_kind : (Str.ofString "put" = Str.ofString "kind") = False := by rw [strE]; exact eq_false (by decide)
theorem nm_put_last : (Str.ofString "put" = Str.ofString "last") = False := by rw [strE]; exact eq_false (by decide)
theorem nm_put_looks : (Str.ofString "put" = Str.ofString "looks") = False := by rw [strE]; exact eq_false (by decide)
theorem nm_put_rows : (Str.ofString "put" = Str.ofString "rows") = False := by rw [strE]; exact eq_false (by decide)
theorem nm_put_seen : (Str.ofString "put" = Str.ofString "seen") = False := by rw [strE]; exact eq_false (by decide)
theorem nm_put_under : (Str.ofString "put" = Str.ofString "under") = False := by rw [strE]; exact eq_false (by decide)
theorem nm_put_upper : (Str.ofString "put" = Str.ofString "upper") = False := by rw [strE]; exact eq_false (by decide)
theorem nm_put_works : (Str.ofString "put" = Str.ofString "works") = False := by rw [strE]; exact eq_false (by decide)
theorem nm_put_all_kind : (Str.ofString "put_all" = Str.ofString "kind") = False := by rw [strE]; exact eq_false (by decide)
theorem nm_put_all_looks : (Str.ofString "put_all" = Str.ofString "looks") = False := by rw [strE]; exact eq_false (by decide)
theorem nm_put_all_sight : (Str.ofString "put_all" = Str.ofString "sight") = False := by rw [strE]; exact eq_false (by decide)
theorem nm_put_all_table : (Str.ofString "put_all" = Str.ofString "table") = False := by rw [strE]; exact eq_false (by decide)
theorem nm_rest_done : (Str.ofString "rest" = Str.ofString "done") = False := by rw [strE]; exact eq_false (by decide)
theorem nm_rest_figures : (Str.ofString "rest" = Str.ofString "figures") = False := by rw [strE]; exact eq_false (by decide)
theorem nm_rest_great : (Str.ofString "rest" = Str.ofString "great") = False := by rw [strE]; exact eq_false (by decide)
theorem nm_rest_kind : (Str.ofString "rest" = Str.ofString "kind") = False := by rw [strE]; exact eq_false (by decide)
theorem nm_rest_left : (Str.ofString "rest" = Str.ofString "left") = False := by rw [strE]; exact eq_false (by decide)
theorem nm_rest_looks : (Str.ofString "rest" = Str.ofString "looks") = False := by rw [strE]; exact eq_false (by decide)
theorem nm_rest_numbers : (Str.ofString "rest" = Str.ofString "numbers") = False := by rw [strE]; exact eq_false (by decide)
theorem nm_rest_rows : (Str.ofString "rest" = Str.ofString "rows") = False := by rw [strE]; exact eq_false (by decide)
theorem nm_rest_seen : (Str.ofString "rest" = Str.ofString "seen") = False := by rw [strE]; exact eq_false (by decide)
theorem nm_rest_stand : (Str.ofString "rest" = Str.ofString "stand") = False := by rw [strE]; exact eq_false (by decide)
theorem nm_rest_wide : (Str.ofString "rest" = Str.ofString "wide") = False := by rw [strE]; exact eq_false (by decide)
theorem nm_rest_works : (Str.ofString "rest" = Str.ofString "works") = False := by rw [strE]; exact eq_false (by decide)
theorem nm_row_done : (Str.ofString "row" = Str.ofString "done") = False := by rw [strE]; exact eq_false (by decide)
theorem nm_row_kind : (Str.ofString "row" = Str.ofString "kind") = False := by rw [strE]; exact eq_false (by decide)
theorem nm_row_looks : (Str.ofString "row" = Str.ofString "looks") = False := by rw [strE]; exact eq_false (by decide)
theorem nm_row_rows : (Str.ofString "row" = Str.ofString "rows") = False := by rw [strE]; exact eq_false (by decide)
theorem nm_row_seen : (Str.ofString "row" = Str.ofString "seen") = False := by rw [strE]; exact eq_false (by decide)
theorem nm_row_works : (Str.ofString "row" = Str.ofString "works") = False := by rw [strE]; exact eq_false (by decide)
theorem nm_rows_begin : (Str.ofString "rows" = Str.ofString "begin") = False := by rw [strE]; exact eq_false (by decide)
theorem nm_rows_begin_rows : (Str.ofString "rows" = Str.ofString "begin_rows") = False := by rw [strE]; exact eq_false (by decide)
theorem nm_rows_deeds : (Str.ofString "rows" = Str.ofString "deeds") = False := by rw [strE]; exact eq_false (by decide)
theorem nm_rows_done : (Str.ofString "rows" = Str.ofString "done") = False := by rw [strE]; exact eq_false (by decide)
theorem nm_rows_entries : (Str.ofString "rows" = Str.ofString "entries") = False := by rw [strE]; exact eq_false (by decide)
theorem nm_rows_go : (Str.ofString "rows" = Str.ofString "go") = False := by rw [strE]; exact eq_false (by decide)
theorem nm_rows_kind : (Str.ofString "rows" = Str.ofString "kind") = False := by rw [strE]; exact eq_false (by decide)
theorem nm_rows_looked : (Str.ofString "rows" = Str.ofString "looked") = False := by rw [strE]; exact eq_false (by decide)
theorem nm_rows_looks : (Str.ofString "rows" = Str.ofString "looks") = False := by rw [strE]; exact eq_false (by decide)
theorem nm_rows_put : (Str.ofString "rows" = Str.ofString "put") = False := by rw [strE]; exact eq_false (by decide)
theorem nm_rows_rest : (Str.ofString "rows" = Str.ofString "rest") = False := by rw [strE]; exact eq_false (by decide)
theorem nm_rows_row : (Str.ofString "rows" = Str.ofString "row") = False := by rw [strE]; exact eq_false (by decide)
theorem nm_rows_seen : (Str.ofString "rows" = Str.ofString "seen") = False := by rw [strE]; exact eq_false (by decide)
theorem nm_rows_work : (Str.ofString "rows" = Str.ofString "work") = False := by rw [strE]; exact eq_false (by decide)
theorem nm_rows_works : (Str.ofString "rows" = Str.ofString "works") = False := by rw [strE]; exact eq_false (by decide)
theorem nm_rows_wrong : (Str.ofString "rows" = Str.ofString "wrong") = False := by rw [strE]; exact eq_false (by decide)
theorem nm_say_kind : (Str.ofString "say" = Str.ofString "kind") = False := by rw [strE]; exact eq_false (by decide)
theorem nm_say_looks : (Str.ofString "say" = Str.ofString "looks") = False := by rw [strE]; exact eq_false (by decide)
theorem nm_say_sight : (Str.ofString "say" = Str.ofString "sight") = False := by rw [strE]; exact eq_false (by decide)
theorem nm_say_table : (Str.ofString "say" = Str.ofString "table") = False := by rw [strE]; exact eq_false (by decide)
theorem nm_seen_begin : (Str.ofString "seen" = Str.ofString "begin") = False := by rw [strE]; exact eq_false (by decide)
theorem nm_seen_begin_rows : (Str.ofString "seen" = Str.ofString "begin_rows") = False := by rw [strE]; exact eq_false (by decide)
theorem nm_seen_deeds : (Str.ofString "seen" = Str.ofString "deeds") = False := by rw [strE]; exact eq_false (by decide)
theorem nm_seen_done : (Str.ofString "seen" = Str.ofString "done") = False := by rw [strE]; exact eq_false (by decide)
theorem nm_seen_entries : (Str.ofString "seen" = Str.ofString "entries") = False := by rw [strE]; exact eq_false (by decide)
theorem nm_seen_go : (Str.ofString "seen" = Str.ofString "go") = False := by rw [strE]; exact eq_false (by decide)
theorem nm_seen_kind : (Str.ofString "seen" = Str.ofString "kind") = False := by rw [strE]; exact eq_false (by decide)
theorem nm_seen_looked : (Str.ofString "seen" = Str.ofString "looked") = False := by rw [strE]; exact eq_false (by decide)
theorem nm_seen_looks : (Str.ofString "seen" = Str.ofString "looks") = False := by rw [strE]; exact eq_false (by decide)
theorem nm_seen_put : (Str.ofString "seen" = Str.ofString "put") = False := by rw [strE]; exact eq_false (by decide)
theorem nm_seen_rest : (Str.ofString "seen" = Str.ofString "rest") = False := by rw [strE]; exact eq_false (by decide)
theorem nm_seen_row : (Str.ofString "seen" = Str.ofString "row") = False := by rw [strE]; exact eq_false (by decide)
theorem nm_seen_rows : (Str.ofString "seen" = Str.ofString "rows") = False := by rw [strE]; exact eq_false (by decide)
theorem nm_seen_work : (Str.ofString "seen" = Str.ofString "work") = False := by rw [strE]; exact eq_false (by decide)
theorem nm_seen_works : (Str.ofString "seen" = Str.ofString "works") = False := by rw [strE]; exact eq_false (by decide)
theorem nm_seen_wrong : (Str.ofString "seen" = Str.ofString "wrong") = False := by rw [strE]; exact eq_false (by decide)
theorem nm_sight_ask_cell : (Str.ofString "sight" = Str.ofString "ask_cell") = False := by rw [strE]; exact eq_false (by decide)
theorem nm_sight_divided : (Str.ofString "sight" = Str.ofString "divided") = False := by rw [strE]; exact eq_false (by decide)
theorem nm_sight_entered : (Str.ofString "sight" = Str.ofString "entered") = False := by rw [strE]; exact eq_false (by decide)
theorem nm_sight_kind : (Str.ofString "sight" = Str.ofString "kind") = False := by rw [strE]; exact eq_false (by decide)
theorem nm_sight_looked : (Str.ofString "sight" = Str.ofString "looked") = False := by rw [strE]; exact eq_false (by decide)
theorem nm_sight_looks : (Str.ofString "sight" = Str.ofString "looks") = False := by rw [strE]; exact eq_false (by decide)
theorem nm_sight_put_all : (Str.ofString "sight" = Str.ofString "put_all") = False := by rw [strE]; exact eq_false (by decide)
theorem nm_sight_say : (Str.ofString "sight" = Str.ofString "say") = False := by rw [strE]; exact eq_false (by decide)
theorem nm_sight_table : (Str.ofString "sight" = Str.ofString "table") = False := by rw [strE]; exact eq_false (by decide)
theorem nm_sight_told : (Str.ofString "sight" = Str.ofString "told") = False := by rw [strE]; exact eq_false (by decide)
theorem nm_sight_turned : (Str.ofString "sight" = Str.ofString "turned") = False := by rw [strE]; exact eq_false (by decide)
theorem nm_stand_begin : (Str.ofString "stand" = Str.ofString "begin") = False := by rw [strE]; exact eq_false (by decide)
theorem nm_stand_figures : (Str.ofString "stand" = Str.ofString "figures") = False := by rw [strE]; exact eq_false (by decide)
theorem nm_stand_great : (Str.ofString "stand" = Str.ofString "great") = False := by rw [strE]; exact eq_false (by decide)
theorem nm_stand_kind : (Str.ofString "stand" = Str.ofString "kind") = False := by rw [strE]; exact eq_false (by decide)
theorem nm_stand_left : (Str.ofString "stand" = Str.ofString "left") = False := by rw [strE]; exact eq_false (by decide)
theorem nm_stand_looks : (Str.ofString "stand" = Str.ofString "looks") = False := by rw [strE]; exact eq_false (by decide)
theorem nm_stand_numbers : (Str.ofString "stand" = Str.ofString "numbers") = False := by rw [strE]; exact eq_false (by decide)
theorem nm_stand_rest : (Str.ofString "stand" = Str.ofString "rest") = False := by rw [strE]; exact eq_false (by decide)
theorem nm_stand_tried : (Str.ofString "stand" = Str.ofString "tried") = False := by rw [strE]; exact eq_false (by decide)
theorem nm_stand_wide : (Str.ofString "stand" = Str.ofString "wide") = False := by rw [strE]; exact eq_false (by decide)
theorem nm_table_ask_cell : (Str.ofString "table" = Str.ofString "ask_cell") = False := by rw [strE]; exact eq_false (by decide)
theorem nm_table_divided : (Str.ofString "table" = Str.ofString "divided") = False := by rw [strE]; exact eq_false (by decide)
theorem nm_table_entered : (Str.ofString "table" = Str.ofString "entered") = False := by rw [strE]; exact eq_false (by decide)
theorem nm_table_kind : (Str.ofString "table" = Str.ofString "kind") = False := by rw [strE]; exact eq_false (by decide)
theorem nm_table_looked : (Str.ofString "table" = Str.ofString "looked") = False := by rw [strE]; exact eq_false (by decide)
theorem nm_table_looks : (Str.ofString "table" = Str.ofString "looks") = False := by rw [strE]; exact eq_false (by decide)
theorem nm_table_put_all : (Str.ofString "table" = Str.ofString "put_all") = False := by rw [strE]; exact eq_false (by decide)
theorem nm_table_say : (Str.ofString "table" = Str.ofString "say") = False := by rw [strE]; exact eq_false (by decide)
theorem nm_table_sight : (Str.ofString "table" = Str.ofString "sight") = False := by rw [strE]; exact eq_false (by decide)
theorem nm_table_told : (Str.ofString "table" = Str.ofString "told") = False := by rw [strE]; exact eq_false (by decide)
theorem nm_table_turned : (Str.ofString "table" = Str.ofString "turned") = False := by rw [strE]; exact eq_false (by decide)
theorem nm_told_ahead : (Str.ofString "told" = Str.ofString "ahead") = False := by rw [strE]; exact eq_false (by decide)
theorem nm_told_ended : (Str.ofString "told" = Str.ofString "ended") = False := by rw [strE]; exact eq_false (by decide)
theorem nm_told_figures : (Str.ofString "told" = Str.ofString "figures") = False := by rw [strE]; exact eq_false (by decide)
theorem nm_told_kind : (Str.ofString "told" = Str.ofString "kind") = False := by rw [strE]; exact eq_false (by decide)
theorem nm_told_last : (Str.ofString "told" = Str.ofString "last") = False := by rw [strE]; exact eq_false (by decide)
theorem nm_told_looks : (Str.ofString "told" = Str.ofString "looks") = False := by rw [strE]; exact eq_false (by decide)
theorem nm_told_sight : (Str.ofString "told" = Str.ofString "sight") = False := by rw [strE]; exact eq_false (by decide)
theorem nm_told_table : (Str.ofString "told" = Str.ofString "table") = False := by rw [strE]; exact eq_false (by decide)
theorem nm_top_look : (Str.ofString "top" = Str.ofString "look") = False := by rw [strE]; exact eq_false (by decide)
theorem nm_tried_figures : (Str.ofString "tried" = Str.ofString "figures") = False := by rw [strE]; exact eq_false (by decide)
theorem nm_tried_great : (Str.ofString "tried" = Str.ofString "great") = False := by rw [strE]; exact eq_false (by decide)
theorem nm_tried_kind : (Str.ofString "tried" = Str.ofString "kind") = False := by rw [strE]; exact eq_false (by decide)
theorem nm_tried_left : (Str.ofString "tried" = Str.ofString "left") = False := by rw [strE]; exact eq_false (by decide)
theorem nm_tried_looks : (Str.ofString "tried" = Str.ofString "looks") = False := by rw [strE]; exact eq_false (by decide)
theorem nm_tried_numbers : (Str.ofString "tried" = Str.ofString "numbers") = False := by rw [strE]; exact eq_false (by decide)
theorem nm_tried_stand : (Str.ofString "tried" = Str.ofString "stand") = False := by rw [strE]; exact eq_false (by decide)
theorem nm_tried_wide : (Str.ofString "tried" = Str.ofString "wide") = False := by rw [strE]; exact eq_false (by decide)
theorem nm_turned_kind : (Str.ofString "turned" = Str.ofString "kind") = False := by rw [strE]; exact eq_false (by decide)
theorem nm_turned_looks : (Str.ofString "turned" = Str.ofString "looks") = False := by rw [strE]; exact eq_false (by decide)
theorem nm_turned_sight : (Str.ofString "turned" = Str.ofString "sight") = False := by rw [strE]; exact eq_false (by decide)
theorem nm_turned_table : (Str.ofString "turned" = Str.ofString "table") = False := by rw [strE]; exact eq_false (by decide)
theorem nm_under_base : (Str.ofString "under" = Str.ofString "base") = False := by rw [strE]; exact eq_false (by decide)
theorem nm_under_below : (Str.ofString "under" = Str.ofString "below") = False := by rw [strE]; exact eq_false (by decide)
theorem nm_under_held : (Str.ofString "under" = Str.ofString "held") = False := by rw [strE]; exact eq_false (by decide)
theorem nm_under_put : (Str.ofString "under" = Str.ofString "put") = False := by rw [strE]; exact eq_false (by decide)
theorem nm_under_upper : (Str.ofString "under" = Str.ofString "upper") = False := by rw [strE]; exact eq_false (by decide)
theorem nm_upper_base : (Str.ofString "upper" = Str.ofString "base") = False := by rw [strE]; exact eq_false (by decide)
theorem nm_upper_below : (Str.ofString "upper" = Str.ofString "below") = False := by rw [strE]; exact eq_false (by decide)
theorem nm_upper_held : (Str.ofString "upper" = Str.ofString "held") = False := by rw [strE]; exact eq_false (by decide)
theorem nm_upper_put : (Str.ofString "upper" = Str.ofString "put") = False := by rw [strE]; exact eq_false (by decide)
theorem nm_upper_under : (Str.ofString "upper" = Str.ofString "under") = False := by rw [strE]; exact eq_false (by decide)
theorem nm_wide_begin : (Str.ofString "wide" = Str.ofString "begin") = False := by rw [strE]; exact eq_false (by decide)
theorem nm_wide_figures : (Str.ofString "wide" = Str.ofString "figures") = False := by rw [strE]; exact eq_false (by decide)
theorem nm_wide_great : (Str.ofString "wide" = Str.ofString "great") = False := by rw [strE]; exact eq_false (by decide)
theorem nm_wide_kind : (Str.ofString "wide" = Str.ofString "kind") = False := by rw [strE]; exact eq_false (by decide)
theorem nm_wide_left : (Str.ofString "wide" = Str.ofString "left") = False := by rw [strE]; exact eq_false (by decide)
theorem nm_wide_looks : (Str.ofString "wide" = Str.ofString "looks") = False := by rw [strE]; exact eq_false (by decide)
theorem nm_wide_numbers : (Str.ofString "wide" = Str.ofString "numbers") = False := by rw [strE]; exact eq_false (by decide)
theorem nm_wide_rest : (Str.ofString "wide" = Str.ofString "rest") = False := by rw [strE]; exact eq_false (by decide)
theorem nm_wide_stand : (Str.ofString "wide" = Str.ofString "stand") = False := by rw [strE]; exact eq_false (by decide)
theorem nm_wide_tried : (Str.ofString "wide" = Str.ofString "tried") = False := by rw [strE]; exact eq_false (by decide)
theorem nm_work_done : (Str.ofString "work" = Str.ofString "done") = False := by rw [strE]; exact eq_false (by decide)
theorem nm_work_kind : (Str.ofString "work" = Str.ofString "kind") = False := by rw [strE]; exact eq_false (by decide)
theorem nm_work_looks : (Str.ofString "work" = Str.ofString "looks") = False := by rw [strE]; exact eq_false (by decide)
theorem nm_work_rows : (Str.ofString "work" = Str.ofString "rows") = False := by rw [strE]; exact eq_false (by decide)
theorem nm_work_seen : (Str.ofString "work" = Str.ofString "seen") = False := by rw [strE]; exact eq_false (by decide)
theorem nm_work_works : (Str.ofString "work" = Str.ofString "works") = False := by rw [strE]; exact eq_false (by decide)
theorem nm_works_begin : (Str.ofString "works" = Str.ofString "begin") = False := by rw [strE]; exact eq_false (by decide)
theorem nm_works_begin_rows : (Str.ofString "works" = Str.ofString "begin_rows") = False := by rw [strE]; exact eq_false (by decide)
theorem nm_works_deeds : (Str.ofString "works" = Str.ofString "deeds") = False := by rw [strE]; exact eq_false (by decide)
theorem nm_works_done : (Str.ofString "works" = Str.ofString "done") = False := by rw [strE]; exact eq_false (by decide)
theorem nm_works_entries : (Str.ofString "works" = Str.ofString "entries") = False := by rw [strE]; exact eq_false (by decide)
theorem nm_works_go : (Str.ofString "works" = Str.ofString "go") = False := by rw [strE]; exact eq_false (by decide)
theorem nm_works_kind : (Str.ofString "works" = Str.ofString "kind") = False := by rw [strE]; exact eq_false (by decide)
theorem nm_works_looked : (Str.ofString "works" = Str.ofString "looked") = False := by rw [strE]; exact eq_false (by decide)
theorem nm_works_looks : (Str.ofString "works" = Str.ofString "looks") = False := by rw [strE]; exact eq_false (by decide)
theorem nm_works_put : (Str.ofString "works" = Str.ofString "put") = False := by rw [strE]; exact eq_false (by decide)
theorem nm_works_rest : (Str.ofString "works" = Str.ofString "rest") = False := by rw [strE]; exact eq_false (by decide)
theorem nm_works_row : (Str.ofString "works" = Str.ofString "row") = False := by rw [strE]; exact eq_false (by decide)
theorem nm_works_rows : (Str.ofString "works" = Str.ofString "rows") = False := by rw [strE]; exact eq_false (by decide)
theorem nm_works_seen : (Str.ofString "works" = Str.ofString "seen") = False := by rw [strE]; exact eq_false (by decide)
theorem nm_works_work : (Str.ofString "works" = Str.ofString "work") = False := by rw [strE]; exact eq_false (by decide)
theorem nm_works_wrong : (Str.ofString "works" = Str.ofString "wrong") = False := by rw [strE]; exact eq_false (by decide)
theorem nm_wrong_done : (Str.ofString "wrong" = Str.ofString "done") = False := by rw [strE]; exact eq_false (by decide)
theorem nm_wrong_kind : (Str.ofString "wrong" = Str.ofString "kind") = False := by rw [strE]; exact eq_false (by decide)
theorem nm_wrong_looks : (Str.ofString "wrong" = Str.ofString "looks") = False := by rw [strE]; exact eq_false (by decide)
theorem nm_wrong_rows : (Str.ofString "wrong" = Str.ofString "rows") = False := by rw [strE]; exact eq_false (by decide)
theorem nm_wrong_seen : (Str.ofString "wrong" = Str.ofString "seen") = False := by rw [strE]; exact eq_false (by decide)
theorem nm_wrong_works : (Str.ofString "wrong" = Str.ofString "works") = False := by rw [strE]; exact eq_false (by decide)
theorem sz1 : (decide (((1 : Nat) ≤ 1000)) = true) = True := by decide
theorem sz2 : (decide (((2 : Nat) ≤ 1000)) = true) = True := by decide
theorem sz3 : (decide (((3 : Nat) ≤ 1000)) = true) = True := by decide
theorem sz4 : (decide (((4 : Nat) ≤ 1000)) = true) = True := by decide
theorem sz5 : (decide (((5 : Nat) ≤ 1000)) = true) = True := by decide
theorem sz6 : (decide (((6 : Nat) ≤ 1000)) = true) = True := by decide
theorem sz7 : (decide (((7 : Nat) ≤ 1000)) = true) = True := by decide
theorem sz8 : (decide (((8 : Nat) ≤ 1000)) = true) = True := by decide
theorem sz9 : (decide (((9 : Nat) ≤ 1000)) = true) = True := by decide
theorem sz10 : (decide (((10 : Nat) ≤ 1000)) = true) = True := by decide
theorem sz11 : (decide (((11 : Nat) ≤ 1000)) = true) = True := by decide
theorem len1K {l : List (D × D)} (h : l.length ≤ 1000) : decide (l.length ≤ 1000) = true := decide_eq_true h
end Z
set_option Elab.async false
set_option linter.all false
set_option maxRecDepth 100000
set_option maxHeartbeats 1000000
namespace S
open PySem L2 Z
/-! ### the text by places -/
def top (i : Nat) : Stmt := PySem.Challenge.pw_slackfigures_k22_good_for_roots.main.body.getD i (.Pass ⟨0, 0, 0, 0⟩)
abbrev s_law_deck : Stmt := top 7
abbrev s_law_pick : Stmt := top 8
abbrev s_law_kind : Stmt := top 9
abbrev s_law_half : Stmt := top 10
abbrev s_law_sides : Stmt := top 11
abbrev s_law_cut : Stmt := top 12
abbrev s_law_places : Stmt := top 13
abbrev s_law_root_good : Stmt := top 14
abbrev s_root_edges : Stmt := top 1
abbrev s_is_root_met : Stmt := top 2
abbrev s_upper_holds : Stmt := top 3
abbrev s_lower_holds : Stmt := top 4
abbrev s_root_good : Stmt := top 5
abbrev s_law : Stmt := top 15
/-! ### what the defs do with data -/
def b_law_deck : MS := (sSeq (sIf (mB (mOp geI (mV (mVar 0)) (mV (mOp powI (mV (mC (.int 10))) (mV (mC (.int 18))))))) (sRet (mLst (mCons (mOp subI (mV (mVar 0)) (mV (mOp powI (mV (mC (.int 10))) (mV (mC (.int 18)))))) (mCons (mOp modI (mV (mVar 0)) (mV (mC (.int 2147483579)))) (mCons (mVar 1) mNil))))) sNx) (sRet (mLst (mCons (mC (.int 0)) (mCons (mOp modI (mV (mVar 0)) (mV (mC (.int 2147483579)))) (mCons (mVar 1) mNil))))))
def F_law_deck : FD := fnD 2 2 (.ls .sh) b_law_deck
def b_law_pick : MS := (sSeq (sIf (mB (mOp gtI (mV (mOp ixD (mSlot 0) (mV (mC (.int 0))))) (mV (mC (.int 1))))) (sSeq (sSet 3 (mOp modI (mV (mOp ixD (mSlot 0) (mV (mC (.int 0))))) (mV (mVar 1)))) (sSeq (sPut 0 (mC (.int 0)) (mOp divI (mV (mOp ixD (mSlot 0) (mV (mC (.int 0))))) (mV (mVar 1)))) (sRet (mVar 3)))) sNx) (sSeq (sPut 0 (mC (.int 2)) (mOp addD (mV (mOp ixD (mSlot 0) (mV (mC (.int 2))))) (mV (mC (.int 1))))) (sSeq (sSet 2 (mOp modI (mV (mOp powI (mV (mOp addD (mV (mOp ixD (mSlot 0) (mV (mC (.int 1))))) (mV (mOp mulI (mV (mC (.int 15485867))) (mV (mOp ixD (mSlot 0) (mV (mC (.int 2))))))))) (mV (mC (.int 5))))) (mV (mC (.int 2147483647))))) (sSeq (sSet 3 (mOp divI (mV (mOp modI (mV (mOp powI (mV (mOp addD (mV (mVar 2)) (mV (mOp mulI (mV (mC (.int 7919))) (mV (mOp ixD (mSlot 0) (mV (mC (.int 2))))))))) (mV (mC (.int 3))))) (mV (mC (.int 2147483629))))) (mV (mC (.int 32))))) (sSeq (sIf (mB (mOp gtI (mV (mVar 1)) (mV (mC (.int 1000000))))) (sRet (mOp modI (mV (mOp addD (mV (mOp mulI (mV (mVar 3)) (mV (mC (.int 2147483563))))) (mV (mVar 2)))) (mV (mVar 1)))) sNx) (sRet (mOp modI (mV (mVar 3)) (mV (mVar 1)))))))))
def F_law_pick : FD := fnD 4 2 .sh b_law_pick
def b_law_kind : MS := (sSeq (sSet 1 (mOp ixD (mV (mLst (mCons (mC (.int 2)) (mCons (mC (.int 4)) (mCons (mC (.int 4)) (mCons (mC (.int 8)) (mCons (mC (.int 16)) mNil))))))) (mV (mCall1 F_law_pick 1 0 (mCons (mC (.int 5)) mNil))))) (sRet (mTup (mCons (mVar 1) (mCons (mOp addD (mV (mOp divI (mV (mVar 1)) (mV (mC (.int 2))))) (mV (mCall1 F_law_pick 1 0 (mCons (mOp subI (mV (mVar 1)) (mV (mOp divI (mV (mVar 1)) (mV (mC (.int 2)))))) mNil)))) mNil)))))
def F_law_kind : FD := fnD 2 1 .sh b_law_kind
def b_law_half : MS := (sRet (mOp addD (mV (mOp mulI (mV (mOp ixD (mV (mVar 0)) (mV (mC (.int 0))))) (mV (mOp ixD (mV (mLst (mCons (mC (.int 1)) (mCons (mC (.int 2)) (mCons (mC (.int 4)) (mCons (mC (.int 8)) (mCons (mC (.int 16)) (mCons (mC (.int 32)) (mCons (mC (.int 64)) (mCons (mC (.int 128)) (mCons (mC (.int 256)) (mCons (mC (.int 512)) (mCons (mC (.int 1024)) mNil))))))))))))) (mV (mOp ixD (mV (mVar 1)) (mV (mC (.int 1))))))))) (mV (mC (.int 2)))))
def F_law_half : FD := fnD 2 2 .sh b_law_half
def b_law_sides : MS := (sSeq (sAsg (mVar 1) (gT 2 (gC (gN 8) (gC (gN 9) gE)))) (sSeq (sSet 4 (mOp shlI (mV (mC (.int 1))) (mV (mOp addD (mV (mVar 8)) (mV (mVar 9)))))) (sSeq (sSet 5 (mOp mulI (mV (mC (.int 2))) (mV (mOp ixD (mV (mVar 0)) (mV (mC (.int 0))))))) (sSeq (sSet 6 (mOp subI (mV (mOp shlI (mV (mOp ixD (mV (mVar 3)) (mV (mC (.int 0))))) (mV (mOp addD (mV (mVar 9)) (mV (mVar 2)))))) (mV (mVar 4)))) (sSeq (sSet 7 (mOp addD (mV (mOp shlI (mV (mOp addD (mV (mOp ixD (mV (mVar 3)) (mV (mC (.int 0))))) (mV (mC (.int 1))))) (mV (mOp addD (mV (mVar 9)) (mV (mVar 2)))))) (mV (mVar 4)))) (sRet (mLst (mCons (mOp mulI (mV (mVar 5)) (mV (mVar 6))) (mCons (mOp mulI (mV (mVar 5)) (mV (mVar 7))) (mCons (mOp shlI (mV (mOp mulI (mV (mVar 5)) (mV (mOp ixD (mV (mVar 3)) (mV (mC (.int 1))))))) (mV (mOp addD (mV (mVar 8)) (mV (mVar 2))))) (mCons (mOp shlI (mV (mOp mulI (mV (mVar 5)) (mV (mOp addD (mV (mOp ixD (mV (mVar 3)) (mV (mC (.int 1))))) (mV (mC (.int 1))))))) (mV (mOp addD (mV (mVar 8)) (mV (mVar 2))))) (mCons (mVar 4) mNil))))))))))))
def F_law_sides : FD := fnD 10 4 .sh b_law_sides
def b_law_cut : MS := (sSeq (sSet 4 (mLst mNil)) (sSeq (sFor (mR1 (mCons (mB1 lenD (mConsB (mV (mVar 0)) mNilB)) mNil)) (gN 5) (sSeq (sSet 6 (mOp ixD (mV (mVar 0)) (mV (mOp subI (mV (mVar 5)) (mV (mC (.int 1))))))) (sSeq (sSet 7 (mOp ixD (mV (mVar 0)) (mV (mVar 5)))) (sSeq (sSet 8 (mOp addD (mV (mOp addD (mV (mOp mulI (mV (mVar 1)) (mV (mOp ixD (mV (mVar 6)) (mV (mC (.int 0))))))) (mV (mOp mulI (mV (mVar 2)) (mV (mOp ixD (mV (mVar 6)) (mV (mC (.int 1))))))))) (mV (mOp mulI (mV (mVar 3)) (mV (mOp ixD (mV (mVar 6)) (mV (mC (.int 2))))))))) (sSeq (sSet 9 (mOp addD (mV (mOp addD (mV (mOp mulI (mV (mVar 1)) (mV (mOp ixD (mV (mVar 7)) (mV (mC (.int 0))))))) (mV (mOp mulI (mV (mVar 2)) (mV (mOp ixD (mV (mVar 7)) (mV (mC (.int 1))))))))) (mV (mOp mulI (mV (mVar 3)) (mV (mOp ixD (mV (mVar 7)) (mV (mC (.int 2))))))))) (sSeq (sIf (mOr (mAnd (mB (mChain ltI leI (mVar 8) (mC (.int 0)) (mVar 9))) (mB (mOp gtI (mV (mVar 9)) (mV (mC (.int 0)))))) (mB (mChain ltI ltI (mVar 9) (mC (.int 0)) (mVar 8)))) (sSeq (sSet 10 (mB1 maxT (mConsB (mV (mVar 8)) (mConsB (mV (mOp subI (mV (mC (.int 0))) (mV (mVar 8)))) mNilB)))) (sSeq (sSet 11 (mB1 maxT (mConsB (mV (mVar 9)) (mConsB (mV (mOp subI (mV (mC (.int 0))) (mV (mVar 9)))) mNilB)))) (sApp 4 (mB1 tupleD (mConsB (mV (mLc (mR1 (mCons (mC (.int 3)) mNil)) (gN 12) mYes (mOp addD (mV (mOp mulI (mV (mVar 11)) (mV (mOp ixD (mV (mVar 6)) (mV (mVar 12)))))) (mV (mOp mulI (mV (mVar 10)) (mV (mOp ixD (mV (mVar 7)) (mV (mVar 12))))))) [12])) mNilB))))) sNx) (sIf (mB (mOp geI (mV (mVar 9)) (mV (mC (.int 0))))) (sApp 4 (mVar 7)) sNx))))))) (sFrz 4 (sRet (mVar 4)))))
def F_law_cut : FD := fnD 13 4 .sh b_law_cut
def b_law_places : MS := (sSeq (sAsg (mCall F_law_sides 4 (mCons (mVar 0) (mCons (mVar 1) (mCons (mVar 2) (mCons (mVar 3) mNil))))) (gL 5 (gC (gN 7) (gC (gN 8) (gC (gN 9) (gC (gN 10) (gC (gN 11) gE))))))) (sSeq (sSet 4 (mOp subI (mV (mOp ixD (mV (mVar 0)) (mV (mC (.int 0))))) (mV (mC (.int 1))))) (sSeq (sSet 5 (mOp mulI (mV (mOp ixD (mV (mVar 0)) (mV (mC (.int 0))))) (mV (mOp ixD (mV (mVar 0)) (mV (mC (.int 1))))))) (sSeq (sSet 6 (mLst (mCons (mTup (mCons (mVar 7) (mCons (mVar 9) (mCons (mC (.int 1)) mNil)))) (mCons (mTup (mCons (mVar 8) (mCons (mVar 9) (mCons (mC (.int 1)) mNil)))) (mCons (mTup (mCons (mVar 8) (mCons (mVar 10) (mCons (mC (.int 1)) mNil)))) (mCons (mTup (mCons (mVar 7) (mCons (mVar 10) (mCons (mC (.int 1)) mNil)))) mNil)))))) (sSeq (sSet 6 (mCall F_law_cut 4 (mCons (mVar 6) (mCons (mVar 5) (mCons (mVar 4) (mCons (mC (.int 0)) mNil)))))) (sRet (mCall F_law_cut 4 (mCons (mVar 6) (mCons (mOp mulI (mV (mVar 5)) (mV (mVar 4))) (mCons (mOp subI (mV (mC (.int 0))) (mV (mOp mulI (mV (mVar 4)) (mV (mVar 4))))) (mCons (mOp mulI (mV (mOp mulI (mV (mVar 5)) (mV (mVar 5)))) (mV (mVar 11))) mNil)))))))))))
def F_law_places : FD := fnD 12 4 .sh b_law_places
def b_law_root_good : MS := (sSeq (sSet 4 (mCall F_law_places 4 (mCons (mVar 0) (mCons (mVar 1) (mCons (mVar 2) (mCons (mVar 3) mNil)))))) (sSeq (sIf (mB (mOp eqD (mV (mVar 4)) (mV (mLst mNil)))) (sRet (mC .none)) sNx) (sSeq (sSet 5 (mOp ixD (mV (mCall F_law_sides 4 (mCons (mVar 0) (mCons (mVar 1) (mCons (mVar 2) (mCons (mVar 3) mNil)))))) (mV (mC (.int 4))))) (sSeq (sSet 6 (mOp subI (mV (mOp ixD (mV (mVar 0)) (mV (mC (.int 0))))) (mV (mC (.int 1))))) (sSeq (sSet 7 (mLst mNil)) (sSeq (sFor (mR2 (mCons (mOp subI (mV (mC (.int 0))) (mV (mOp ixD (mV (mVar 0)) (mV (mC (.int 1)))))) (mCons (mOp addD (mV (mOp ixD (mV (mVar 0)) (mV (mC (.int 1))))) (mV (mC (.int 1)))) mNil))) (gN 8) (sSeq (sSet 9 (mOp addD (mV (mOp mulI (mV (mVar 8)) (mV (mVar 6)))) (mV (mOp ixD (mV (mVar 0)) (mV (mC (.int 1))))))) (sSeq (sSet 10 (mOp subI (mV (mOp mulI (mV (mVar 8)) (mV (mVar 6)))) (mV (mOp ixD (mV (mVar 0)) (mV (mC (.int 1))))))) (sSeq (sSet 11 (mC (.bool true))) (sSeq (sFor (mIt (mVar 4)) (gT 3 (gC (gN 12) (gC (gN 13) (gC (gN 14) gE)))) (sSeq (sIf (mAnd (mB (mOp neD (mV (mVar 8)) (mV (mOp ixD (mV (mVar 0)) (mV (mC (.int 1))))))) (mB (mOp gtI (mV (mOp mulI (mV (mVar 6)) (mV (mVar 13)))) (mV (mOp mulI (mV (mVar 9)) (mV (mVar 12))))))) (sSet 11 (mC (.bool false))) sNx) (sSeq (sSet 15 (mOp addD (mV (mOp mulI (mV (mOp mulI (mV (mVar 6)) (mV (mVar 10)))) (mV (mVar 12)))) (mV (mOp mulI (mV (mOp mulI (mV (mOp mulI (mV (mVar 10)) (mV (mVar 10)))) (mV (mVar 5)))) (mV (mVar 14)))))) (sIf (mAnd (mB (mOp neD (mV (mVar 8)) (mV (mOp subI (mV (mC (.int 0))) (mV (mOp ixD (mV (mVar 0)) (mV (mC (.int 1))))))))) (mB (mOp ltI (mV (mOp mulI (mV (mOp mulI (mV (mVar 6)) (mV (mVar 6)))) (mV (mVar 13)))) (mV (mVar 15))))) (sSet 11 (mC (.bool false))) sNx)))) (sIf (mB (mVar 11)) (sApp 7 (mVar 8)) sNx)))))) (sFrz 7 (sRet (mVar 7)))))))))
def F_law_root_good : FD := fnD 16 4 .sh b_law_root_good
def b_root_edges : MS := (sSeq (sAsg (mVar 1) (gT 2 (gC (gN 10) (gC (gN 11) gE)))) (sSeq (sAsg (mVar 3) (gT 2 (gC (gN 12) (gC (gN 13) gE)))) (sSeq (sSet 4 (mOp shlI (mV (mC (.int 1))) (mV (mOp addD (mV (mVar 10)) (mV (mVar 11)))))) (sSeq (sSet 5 (mOp mulI (mV (mC (.int 2))) (mV (mOp ixD (mV (mVar 0)) (mV (mC (.int 0))))))) (sSeq (sSet 6 (mOp mulI (mV (mVar 5)) (mV (mOp subI (mV (mOp shlI (mV (mVar 12)) (mV (mOp addD (mV (mVar 11)) (mV (mVar 2)))))) (mV (mVar 4)))))) (sSeq (sSet 7 (mOp mulI (mV (mVar 5)) (mV (mOp addD (mV (mOp shlI (mV (mOp addD (mV (mVar 12)) (mV (mC (.int 1))))) (mV (mOp addD (mV (mVar 11)) (mV (mVar 2)))))) (mV (mVar 4)))))) (sSeq (sSet 8 (mOp mulI (mV (mVar 5)) (mV (mOp shlI (mV (mVar 13)) (mV (mOp addD (mV (mVar 10)) (mV (mVar 2)))))))) (sSeq (sSet 9 (mOp mulI (mV (mVar 5)) (mV (mOp shlI (mV (mOp addD (mV (mVar 13)) (mV (mC (.int 1))))) (mV (mOp addD (mV (mVar 10)) (mV (mVar 2)))))))) (sRet (mTup (mCons (mVar 6) (mCons (mVar 7) (mCons (mVar 8) (mCons (mVar 9) (mCons (mVar 4) mNil)))))))))))))))
def F_root_edges : FD := fnD 14 4 .sh b_root_edges
def b_is_root_met : MS := (sSeq (sAsg (mVar 0) (gT 2 (gC (gN 4) (gC (gN 5) gE)))) (sSeq (sAsg (mCall F_root_edges 4 (mCons (mVar 0) (mCons (mVar 1) (mCons (mVar 2) (mCons (mVar 3) mNil))))) (gT 5 (gC (gN 6) (gC (gN 7) (gC (gN 8) (gC (gN 9) (gC (gN 10) gE))))))) (sSeq (sIf (mB (mOp ltI (mV (mOp mulI (mV (mOp subI (mV (mVar 4)) (mV (mC (.int 1))))) (mV (mVar 9)))) (mV (mOp mulI (mV (mOp mulI (mV (mUn negI (mV (mVar 4)))) (mV (mVar 5)))) (mV (mVar 7)))))) (sRet (mC (.bool false))) sNx) (sRet (mOp leI (mV (mOp mulI (mV (mOp mulI (mV (mOp subI (mV (mVar 4)) (mV (mC (.int 1))))) (mV (mOp subI (mV (mVar 4)) (mV (mC (.int 1))))))) (mV (mVar 8)))) (mV (mOp mulI (mV (mOp mulI (mV (mVar 4)) (mV (mVar 5)))) (mV (mOp addD (mV (mOp mulI (mV (mOp subI (mV (mVar 4)) (mV (mC (.int 1))))) (mV (mVar 7)))) (mV (mOp mulI (mV (mOp mulI (mV (mVar 4)) (mV (mVar 5)))) (mV (mVar 10)))))))))))))
def F_is_root_met : FD := fnD 11 4 .sh b_is_root_met
def b_upper_holds : MS := (sSeq (sAsg (mVar 0) (gT 2 (gC (gN 5) (gC (gN 6) gE)))) (sSeq (sAsg (mVar 2) (gT 5 (gC (gN 7) (gC (gN 8) (gC (gN 9) (gC (gN 10) (gC (gN 11) gE))))))) (sSeq (sSet 3 (mOp subI (mV (mVar 5)) (mV (mC (.int 1))))) (sSeq (sSet 4 (mOp mulI (mV (mVar 5)) (mV (mVar 6)))) (sSeq (sIf (mAnd (mB (mOp leI (mV (mOp mulI (mV (mVar 3)) (mV (mVar 10)))) (mV (mOp mulI (mV (mVar 1)) (mV (mVar 8)))))) (mB (mOp leI (mV (mVar 1)) (mV (mC (.int 0)))))) (sRet (mC (.bool true))) sNx) (sSeq (sIf (mB (mOp leI (mV (mVar 1)) (mV (mC (.int 0))))) (sRet (mOp leI (mV (mOp addD (mV (mOp mulI (mV (mOp mulI (mV (mVar 4)) (mV (mVar 3)))) (mV (mVar 8)))) (mV (mOp mulI (mV (mOp mulI (mV (mVar 4)) (mV (mVar 4)))) (mV (mVar 11)))))) (mV (mOp mulI (mV (mOp mulI (mV (mVar 1)) (mV (mVar 3)))) (mV (mVar 8)))))) sNx) (sSeq (sIf (mB (mOp geI (mV (mOp addD (mV (mOp mulI (mV (mOp mulI (mV (mVar 4)) (mV (mVar 3)))) (mV (mVar 7)))) (mV (mOp mulI (mV (mOp mulI (mV (mVar 4)) (mV (mVar 4)))) (mV (mVar 11)))))) (mV (mOp mulI (mV (mOp mulI (mV (mVar 3)) (mV (mVar 3)))) (mV (mVar 10)))))) (sRet (mOp leI (mV (mOp mulI (mV (mVar 3)) (mV (mVar 10)))) (mV (mOp mulI (mV (mVar 1)) (mV (mVar 7)))))) sNx) (sSeq (sIf (mB (mOp leI (mV (mOp addD (mV (mOp mulI (mV (mOp mulI (mV (mVar 4)) (mV (mVar 3)))) (mV (mVar 8)))) (mV (mOp mulI (mV (mOp mulI (mV (mVar 4)) (mV (mVar 4)))) (mV (mVar 11)))))) (mV (mOp mulI (mV (mOp mulI (mV (mVar 3)) (mV (mVar 3)))) (mV (mVar 10)))))) (sRet (mOp leI (mV (mOp addD (mV (mOp mulI (mV (mOp mulI (mV (mVar 4)) (mV (mVar 3)))) (mV (mVar 8)))) (mV (mOp mulI (mV (mOp mulI (mV (mVar 4)) (mV (mVar 4)))) (mV (mVar 11)))))) (mV (mOp mulI (mV (mOp mulI (mV (mVar 1)) (mV (mVar 3)))) (mV (mVar 8)))))) sNx) (sRet (mOp leI (mV (mOp mulI (mV (mOp mulI (mV (mOp mulI (mV (mVar 3)) (mV (mVar 3)))) (mV (mVar 10)))) (mV (mVar 4)))) (mV (mOp mulI (mV (mVar 1)) (mV (mOp subI (mV (mOp mulI (mV (mOp mulI (mV (mVar 3)) (mV (mVar 3)))) (mV (mVar 10)))) (mV (mOp mulI (mV (mOp mulI (mV (mVar 4)) (mV (mVar 4)))) (mV (mVar 11))))))))))))))))))
def F_upper_holds : FD := fnD 12 3 .sh b_upper_holds
def b_lower_holds : MS := (sSeq (sAsg (mVar 0) (gT 2 (gC (gN 5) (gC (gN 6) gE)))) (sSeq (sAsg (mVar 2) (gT 5 (gC (gN 7) (gC (gN 8) (gC (gN 9) (gC (gN 10) (gC (gN 11) gE))))))) (sSeq (sSet 3 (mOp subI (mV (mVar 5)) (mV (mC (.int 1))))) (sSeq (sSet 4 (mOp mulI (mV (mVar 5)) (mV (mVar 6)))) (sSeq (sIf (mB (mOp geI (mV (mVar 1)) (mV (mC (.int 0))))) (sRet (mOp geI (mV (mOp mulI (mV (mOp mulI (mV (mVar 3)) (mV (mVar 3)))) (mV (mVar 9)))) (mV (mOp addD (mV (mOp mulI (mV (mOp mulI (mV (mVar 3)) (mV (mVar 1)))) (mV (mVar 8)))) (mV (mOp mulI (mV (mOp mulI (mV (mVar 1)) (mV (mVar 1)))) (mV (mVar 11)))))))) sNx) (sSeq (sIf (mB (mOp geI (mV (mOp mulI (mV (mVar 3)) (mV (mVar 9)))) (mV (mOp mulI (mV (mUn negI (mV (mVar 4)))) (mV (mVar 7)))))) (sRet (mOp geI (mV (mOp mulI (mV (mOp mulI (mV (mVar 3)) (mV (mVar 3)))) (mV (mVar 9)))) (mV (mOp addD (mV (mOp mulI (mV (mOp mulI (mV (mVar 3)) (mV (mVar 1)))) (mV (mVar 7)))) (mV (mOp mulI (mV (mOp mulI (mV (mVar 1)) (mV (mVar 1)))) (mV (mVar 11)))))))) sNx) (sSeq (sIf (mB (mOp leI (mV (mOp mulI (mV (mVar 3)) (mV (mVar 9)))) (mV (mOp mulI (mV (mUn negI (mV (mVar 4)))) (mV (mVar 8)))))) (sRet (mOp geI (mV (mOp mulI (mV (mOp mulI (mV (mUn negI (mV (mVar 4)))) (mV (mVar 3)))) (mV (mVar 8)))) (mV (mOp addD (mV (mOp mulI (mV (mOp mulI (mV (mVar 3)) (mV (mVar 1)))) (mV (mVar 8)))) (mV (mOp mulI (mV (mOp mulI (mV (mVar 1)) (mV (mVar 1)))) (mV (mVar 11)))))))) sNx) (sRet (mOp geI (mV (mOp mulI (mV (mOp mulI (mV (mOp mulI (mV (mVar 3)) (mV (mVar 3)))) (mV (mVar 9)))) (mV (mVar 4)))) (mV (mOp addD (mV (mOp mulI (mV (mOp mulI (mV (mOp mulI (mV (mUn negI (mV (mVar 3)))) (mV (mVar 3)))) (mV (mVar 1)))) (mV (mVar 9)))) (mV (mOp mulI (mV (mOp mulI (mV (mOp mulI (mV (mVar 1)) (mV (mVar 1)))) (mV (mVar 11)))) (mV (mVar 4)))))))))))))))
def F_lower_holds : FD := fnD 12 3 .sh b_lower_holds
def b_root_good : MS := (sSeq (sAsg (mVar 0) (gT 2 (gC (gN 8) (gC (gN 9) gE)))) (sSeq (sSet 4 (mLstRg (mRg2 (mUn negI (mV (mVar 9))) (mOp addD (mV (mVar 9)) (mV (mC (.int 1))))))) (sSeq (sIf (mNot (mB (mCall F_is_root_met 4 (mCons (mVar 0) (mCons (mVar 1) (mCons (mVar 2) (mCons (mVar 3) mNil))))))) (sRet (mVar 4)) sNx) (sSeq (sSet 5 (mCall F_root_edges 4 (mCons (mVar 0) (mCons (mVar 1) (mCons (mVar 2) (mCons (mVar 3) mNil)))))) (sSeq (sSet 6 (mLst mNil)) (sFrz 4 (sSeq (sFor (mIt (mVar 4)) (gN 7) (sSeq (sSet 10 (mOrV (mOp eqD (mV (mVar 7)) (mV (mVar 9))) (mCall F_upper_holds 3 (mCons (mVar 0) (mCons (mOp addD (mV (mOp mulI (mV (mVar 7)) (mV (mOp subI (mV (mVar 8)) (mV (mC (.int 1))))))) (mV (mVar 9))) (mCons (mVar 5) mNil)))))) (sSeq (sSet 11 (mOrV (mOp eqD (mV (mVar 7)) (mV (mUn negI (mV (mVar 9))))) (mCall F_lower_holds 3 (mCons (mVar 0) (mCons (mOp subI (mV (mOp mulI (mV (mVar 7)) (mV (mOp subI (mV (mVar 8)) (mV (mC (.int 1))))))) (mV (mVar 9))) (mCons (mVar 5) mNil)))))) (sIf (mAnd (mB (mVar 10)) (mB (mVar 11))) (sApp 6 (mVar 7)) sNx)))) (sRet (mVar 6)))))))))
def F_root_good : FD := fnD 12 4 (.ls .sh) b_root_good
def b_law : MS := (sSeq (sSet 1 (mCall F_law_deck 2 (mCons (mOp ixD (mV (mOp addD (mV (mVar 0)) (mV (mLst (mCons (mC (.int 0)) mNil))))) (mV (mC (.int 0)))) (mCons (mC (.int 0)) mNil)))) (sSeq (sSet 2 (mCall1 F_law_kind 0 1 mNil)) (sSeq (sSet 3 (mTup (mCons (mOp addD (mV (mC (.int 1))) (mV (mCall1 F_law_pick 1 1 (mCons (mC (.int 6)) mNil)))) (mCons (mCall1 F_law_pick 1 1 (mCons (mC (.int 6)) mNil)) mNil)))) (sSeq (sSet 4 (mB1 maxT (mConsB (mV (mC (.int 2))) (mConsB (mV (mOp subI (mV (mOp addD (mV (mOp subI (mV (mUn bitsD (mV (mOp ixD (mV (mVar 2)) (mV (mC (.int 0))))))) (mV (mC (.int 1))))) (mV (mOp ixD (mV (mVar 3)) (mV (mC (.int 1))))))) (mV (mC (.int 2))))) mNilB)))) (sSeq (sSet 4 (mOp addD (mV (mVar 4)) (mV (mOp ixD (mV (mLst (mCons (mCall1 F_law_pick 1 1 (mCons (mC (.int 4)) mNil)) (mCons (mCall1 F_law_pick 1 1 (mCons (mC (.int 21)) mNil)) mNil)))) (mV (mCall1 F_law_pick 1 1 (mCons (mC (.int 2)) mNil))))))) (sSeq (sSet 5 (mCall F_law_half 2 (mCons (mVar 2) (mCons (mVar 3) mNil)))) (sSeq (sFor (mIt (mOp addD (mV (mSl (mV (mVar 0)) (mP1 (mC (.int 1))) (mP1 (mC (.int 11))))) (mV (mLst (mCons (mC (.int 0)) mNil))))) (gN 6) (sSeq (sSet 1 (mCall F_law_deck 2 (mCons (mVar 6) (mCons (mC (.int 170)) mNil)))) (sSeq (sSet 7 (mOp addD (mV (mOp shlI (mV (mC (.int 1))) (mV (mOp subI (mV (mOp ixD (mV (mVar 3)) (mV (mC (.int 0))))) (mV (mC (.int 1))))))) (mV (mCall1 F_law_pick 1 1 (mCons (mOp shlI (mV (mC (.int 1))) (mV (mOp subI (mV (mOp ixD (mV (mVar 3)) (mV (mC (.int 0))))) (mV (mC (.int 1)))))) mNil))))) (sSeq (sSet 8 (mOp mulI (mV (mOp mulI (mV (mOp mulI (mV (mOp ixD (mV (mVar 2)) (mV (mC (.int 0))))) (mV (mOp ixD (mV (mVar 2)) (mV (mC (.int 1))))))) (mV (mOp addD (mV (mVar 7)) (mV (mC (.int 1))))))) (mV (mOp shlI (mV (mC (.int 1))) (mV (mOp ixD (mV (mVar 3)) (mV (mC (.int 1))))))))) (sSeq (sSet 8 (mOp divI (mV (mVar 8)) (mV (mOp mulI (mV (mOp subI (mV (mOp ixD (mV (mVar 2)) (mV (mC (.int 0))))) (mV (mC (.int 1))))) (mV (mOp shlI (mV (mC (.int 1))) (mV (mOp ixD (mV (mVar 3)) (mV (mC (.int 0))))))))))) (sSeq (sSet 9 (mLst (mCons (mOp subI (mV (mCall1 F_law_pick 1 1 (mCons (mOp mulI (mV (mC (.int 2))) (mV (mVar 5))) mNil))) (mV (mVar 5))) (mCons (mOp subI (mV (mOp addD (mV (mVar 8)) (mV (mCall1 F_law_pick 1 1 (mCons (mC (.int 5)) mNil))))) (mV (mC (.int 2)))) mNil)))) (sSeq (sSet 9 (mOp addD (mV (mVar 9)) (mV (mLst (mCons (mOp subI (mV (mOp subI (mV (mC (.int 1))) (mV (mVar 8)))) (mV (mCall1 F_law_pick 1 1 (mCons (mC (.int 5)) mNil)))) (mCons (mOp subI (mV (mCall1 F_law_pick 1 1 (mCons (mC (.int 9)) mNil))) (mV (mC (.int 4)))) mNil)))))) (sSeq (sSet 10 (mTup (mCons (mVar 7) (mCons (mB1 maxT (mConsB (mV (mOp subI (mV (mC (.int 0))) (mV (mVar 5)))) (mConsB (mV (mB1 minD (mConsB (mV (mOp subI (mV (mVar 5)) (mV (mC (.int 1))))) (mConsB (mV (mOp ixD (mV (mVar 9)) (mV (mCall1 F_law_pick 1 1 (mCons (mC (.int 4)) mNil))))) mNilB)))) mNilB))) mNil)))) (sSeq (sSet 11 (mCall F_law_root_good 4 (mCons (mVar 2) (mCons (mVar 3) (mCons (mVar 4) (mCons (mVar 10) mNil)))))) (sSeq (sIf (mB (mOp isN (mV (mVar 11)) (mV (mC .none)))) (sSet 11 (mLstRg (mRg2 (mOp subI (mV (mC (.int 0))) (mV (mOp ixD (mV (mVar 2)) (mV (mC (.int 1)))))) (mOp addD (mV (mOp ixD (mV (mVar 2)) (mV (mC (.int 1))))) (mV (mC (.int 1))))))) sNx) (sFor (mR1 (mCons (mC (.int 2)) mNil)) (gN 12) (sSeq (sSet 13 (mCall F_root_good 4 (mCons (mVar 2) (mCons (mVar 3) (mCons (mVar 4) (mCons (mVar 10) mNil)))))) (sSeq (sIf (mOr (mNot (mB (mUn (fun d => some (.bool (isiB "list" d))) (mSlot 13)))) (mB (mOp neD (mSlot 13) (mV (mVar 11))))) (sRet (mC (.bool false))) sNx) (sSeq (sApp 13 (mC (.int 99))) (sKill 13 sNx))))))))))))))) (sRet (mC (.bool true))))))))))
def F_law : FD := fnD 14 1 .sh b_law
/-! ### each def keeps its meaning -/
def bts : List Str := ["isinstance", "len", "list", "max", "min", "range", "tuple"]
section
variable {P : Program} {w : World} {K : Fg} {mg : Str → Option Value} {base : Heap}
theorem sc_law_deck : FnScope ["cell", "turn"] ["cell", "turn"] (defScope s_law_deck) := ⟨rfl, rfl, rfl, by decide +kernel, rfl, by decide +kernel, by decide +kernel⟩
theorem ok_law_deck {f : Addr} {fd : FuncData}  (F : FnP K "_law_deck" s_law_deck f fd) (hB : ∀ x ∈ bts, mg x = none)      : FnOk P w K mg base CX0 1 f fd ["cell", "turn"] (spD K mg F_law_deck [.sh, .sh] (.ls .sh)) := by
  show FnOk P w K mg base CX0 (0 + 1) f fd ["cell", "turn"] (spD K mg (fnD 2 2 (.ls .sh) b_law_deck) [.sh, .sh] (.ls .sh))
  refine fn_ok (k := 0) (ps := [.sh, .sh]) (rk := (.ls .sh)) (b := b_law_deck) (O1 := []) (N := ["cell", "turn"]) F sc_law_deck rfl (of_decide_eq_true rfl) (fun cdv A outer s H E hr => ⟨_, (pss_cons (ps_if (pt_cmpR op_ge (pv 0) (pe_op op_pow pe_int pe_int) (nomark _)) (pss_one (ps_ret (pe_lst (pa_cons (pe_op op_sub (pv 0) (pe_op op_pow pe_int pe_int)) (pa_cons (pe_op op_mod (pv 0) pe_int) (pa_cons (pv 1) pa_nil)))))) pss_nil) (pss_one (ps_ret (pe_lst (pa_cons pe_int (pa_cons (pe_op op_mod (pv 0) pe_int) (pa_cons (pv 1) pa_nil))))))), fun c hps hrk hmg => ?_⟩)
  show DC K c [] [.sh, .sh] _ b_law_deck _
  exact (c_cons (c_if (d_test (d_op g_ge (DE.b (d_var 0)) (DE.b (d_op g_pow (DE.b d_int) (DE.b d_int))))) (c_retO (o_lst (da_cons (d_op g_sub (DE.b (d_var 0)) (DE.b (d_op g_pow (DE.b d_int) (DE.b d_int)))) (da_cons (d_op g_mod (DE.b (d_var 0)) (DE.b d_int)) (da_cons (d_var 1) da_nil)))) hrk) c_nil) (c_retO (o_lst (da_cons d_int (da_cons (d_op g_mod (DE.b (d_var 0)) (DE.b d_int)) (da_cons (d_var 1) da_nil)))) hrk))
theorem sc_law_pick : FnScope ["deck", "many", "number", "found"] ["deck", "many"] (defScope s_law_pick) := ⟨rfl, rfl, rfl, by decide +kernel, rfl, by decide +kernel, by decide +kernel⟩
theorem ok_law_pick {f : Addr} {fd : FuncData}  (F : FnP K "_law_pick" s_law_pick f fd) (hB : ∀ x ∈ bts, mg x = none)      : FnOk P w K mg base CX0 1 f fd ["deck", "many"] (spD K mg F_law_pick [(.pm (.ls .sh)), .sh] .sh) := by
  show FnOk P w K mg base CX0 (0 + 1) f fd ["deck", "many"] (spD K mg (fnD 4 2 .sh b_law_pick) [(.pm (.ls .sh)), .sh] .sh)
  refine fn_ok (k := 0) (ps := [(.pm (.ls .sh)), .sh]) (rk := .sh) (b := b_law_pick) (O1 := []) (N := ["deck", "many", "number", "found"]) F sc_law_pick rfl (of_decide_eq_true rfl) (fun cdv A outer s H E hr => ⟨_, (pss_cons (ps_if (pt_cmpR op_gt (pe_ix ix_seq (pv 0) pe_int (fun _ _ => rfl)) pe_int (nomark _)) (pss_cons (ps_set (i := 3) sc_law_pick.nd rfl (by first | exact Or.inl rfl | exact Or.inr rfl) (pe_op op_mod (pe_ix ix_seq (pv 0) pe_int (fun _ _ => rfl)) (pv 1))) (pss_cons (ps_asg (pe_op op_fdivW (pe_ix ix_seq (pv 0) pe_int (fun _ _ => rfl)) (pv 1)) (pg_sub (pv 0) pe_int set_list)) (pss_one (ps_ret (pv 3))))) pss_nil) (pss_cons (ps_asg (pe_op op_addU (pe_ix ix_seq (pv 0) pe_int (fun _ _ => rfl)) pe_int) (pg_sub (pv 0) pe_int set_list)) (pss_cons (ps_set (i := 2) sc_law_pick.nd rfl (by first | exact Or.inl rfl | exact Or.inr rfl) (pe_op op_mod (pe_op op_pow (pe_op op_addU (pe_ix ix_seq (pv 0) pe_int (fun _ _ => rfl)) (pe_op op_mulX pe_int (pe_ix ix_seq (pv 0) pe_int (fun _ _ => rfl)))) pe_int) pe_int)) (pss_cons (ps_set (i := 3) sc_law_pick.nd rfl (by first | exact Or.inl rfl | exact Or.inr rfl) (pe_op op_fdivW (pe_op op_mod (pe_op op_pow (pe_op op_addU (pv 2) (pe_op op_mulX pe_int (pe_ix ix_seq (pv 0) pe_int (fun _ _ => rfl)))) pe_int) pe_int) pe_int)) (pss_cons (ps_if (pt_cmpR op_gt (pv 1) pe_int (nomark _)) (pss_one (ps_ret (pe_op op_mod (pe_op op_addU (pe_op op_mulX (pv 3) pe_int) (pv 2)) (pv 1)))) pss_nil) (pss_one (ps_ret (pe_op op_mod (pv 3) (pv 1))))))))), fun c hps hrk hmg => ?_⟩)
  show DC K c [] [(.pm (.ls .sh)), .sh, .sh, .sh] _ b_law_pick _
  exact (c_cons (c_if (d_test (d_op g_gt (DE.b (d_op g_ix (d_slot 0) (DE.b d_int))) (DE.b d_int))) (c_cons (c_set 3 (d_op g_mod (DE.b (d_op g_ix (d_slot 0) (DE.b d_int))) (DE.b (d_var 1)))) (c_cons (c_put 0 (d_op g_div (DE.b (d_op g_ix (d_slot 0) (DE.b d_int))) (DE.b (d_var 1))) d_int) (c_ret (d_var 3) hrk))) c_nil) (c_cons (c_put 0 (d_op g_add (DE.b (d_op g_ix (d_slot 0) (DE.b d_int))) (DE.b d_int)) d_int) (c_cons (c_set 2 (d_op g_mod (DE.b (d_op g_pow (DE.b (d_op g_add (DE.b (d_op g_ix (d_slot 0) (DE.b d_int))) (DE.b (d_op g_mul (DE.b d_int) (DE.b (d_op g_ix (d_slot 0) (DE.b d_int))))))) (DE.b d_int))) (DE.b d_int))) (c_cons (c_set 3 (d_op g_div (DE.b (d_op g_mod (DE.b (d_op g_pow (DE.b (d_op g_add (DE.b (d_var 2)) (DE.b (d_op g_mul (DE.b d_int) (DE.b (d_op g_ix (d_slot 0) (DE.b d_int))))))) (DE.b d_int))) (DE.b d_int))) (DE.b d_int))) (c_cons (c_if (d_test (d_op g_gt (DE.b (d_var 1)) (DE.b d_int))) (c_ret (d_op g_mod (DE.b (d_op g_add (DE.b (d_op g_mul (DE.b (d_var 3)) (DE.b d_int))) (DE.b (d_var 2)))) (DE.b (d_var 1))) hrk) c_nil) (c_ret (d_op g_mod (DE.b (d_var 3)) (DE.b (d_var 1))) hrk))))))
theorem sc_law_kind : FnScope ["deck", "base"] ["deck"] (defScope s_law_kind) := ⟨rfl, rfl, rfl, by decide +kernel, rfl, by decide +kernel, by decide +kernel⟩
theorem ok_law_kind {f : Addr} {fd : FuncData}  (F : FnP K "_law_kind" s_law_kind f fd) (hB : ∀ x ∈ bts, mg x = none)     (h_law_pick : Fk P w K mg base "_law_pick" 1 ["deck", "many"] (spD K mg F_law_pick [(.pm (.ls .sh)), .sh] .sh)) : FnOk P w K mg base CX0 2 f fd ["deck"] (spD K mg F_law_kind [(.pm (.ls .sh))] .sh) := by
  obtain ⟨_, _, G_law_pick, mg_law_pick, kp_law_pick, bi_law_pick⟩ := h_law_pick
  show FnOk P w K mg base CX0 (1 + 1) f fd ["deck"] (spD K mg (fnD 2 1 .sh b_law_kind) [(.pm (.ls .sh))] .sh)
  refine fn_ok (k := 1) (ps := [(.pm (.ls .sh))]) (rk := .sh) (b := b_law_kind) (O1 := []) (N := ["deck", "base"]) F sc_law_kind rfl (of_decide_eq_true rfl) (fun cdv A outer s H E hr => ⟨_, (pss_cons (ps_set (i := 1) sc_law_kind.nd rfl (by first | exact Or.inl rfl | exact Or.inr rfl) (pe_ix ix_seq (pe_lst (pa_cons pe_int (pa_cons pe_int (pa_cons pe_int (pa_cons pe_int (pa_cons pe_int pa_nil)))))) (pe_call G_law_pick (hr.mono (by decide)) rfl mg_law_pick kp_law_pick bi_law_pick .nil pass0 (pa_cons (pv 0) (pa_cons pe_int pa_nil))) (fun _ _ => rfl))) (pss_one (ps_ret (pe_tup (pa_cons (pv 1) (pa_cons (pe_op op_addU (pe_op op_fdivW (pv 1) pe_int) (pe_call G_law_pick (hr.mono (by decide)) rfl mg_law_pick kp_law_pick bi_law_pick .nil pass0 (pa_cons (pv 0) (pa_cons (pe_op op_sub (pv 1) (pe_op op_fdivW (pv 1) pe_int)) pa_nil)))) pa_nil)))))), fun c hps hrk hmg => ?_⟩)
  show DC K c [] [(.pm (.ls .sh)), .sh] _ b_law_kind _
  exact (c_cons (c_set 1 (d_op g_ix (DE.b (d_lst (da_cons d_int (da_cons d_int (da_cons d_int (da_cons d_int (da_cons d_int da_nil))))))) (DE.b (DO.sh (o_call1 0 (k := .ls .sh) (da_cons d_int da_nil) (.inr rfl)))))) (c_ret (d_tup (da_cons (d_var 1) (da_cons (d_op g_add (DE.b (d_op g_div (DE.b (d_var 1)) (DE.b d_int))) (DE.b (DO.sh (o_call1 0 (k := .ls .sh) (da_cons (d_op g_sub (DE.b (d_var 1)) (DE.b (d_op g_div (DE.b (d_var 1)) (DE.b d_int)))) da_nil) (.inr rfl))))) da_nil))) hrk))
theorem sc_law_half : FnScope ["kind", "looks"] ["kind", "looks"] (defScope s_law_half) := ⟨rfl, rfl, rfl, by decide +kernel, rfl, by decide +kernel, by decide +kernel⟩
theorem ok_law_half {f : Addr} {fd : FuncData}  (F : FnP K "_law_half" s_law_half f fd) (hB : ∀ x ∈ bts, mg x = none)      : FnOk P w K mg base CX0 1 f fd ["kind", "looks"] (spD K mg F_law_half [.sh, .sh] .sh) := by
  show FnOk P w K mg base CX0 (0 + 1) f fd ["kind", "looks"] (spD K mg (fnD 2 2 .sh b_law_half) [.sh, .sh] .sh)
  refine fn_ok (k := 0) (ps := [.sh, .sh]) (rk := .sh) (b := b_law_half) (O1 := []) (N := ["kind", "looks"]) F sc_law_half rfl (of_decide_eq_true rfl) (fun cdv A outer s H E hr => ⟨_, (pss_one (ps_ret (pe_op op_addU (pe_op op_mulX (pe_ix ix_seq (pv 0) pe_int (fun _ _ => rfl)) (pe_ix ix_seq (pe_lst (pa_cons pe_int (pa_cons pe_int (pa_cons pe_int (pa_cons pe_int (pa_cons pe_int (pa_cons pe_int (pa_cons pe_int (pa_cons pe_int (pa_cons pe_int (pa_cons pe_int (pa_cons pe_int pa_nil)))))))))))) (pe_ix ix_seq (pv 1) pe_int (fun _ _ => rfl)) (fun _ _ => rfl))) pe_int))), fun c hps hrk hmg => ?_⟩)
  show DC K c [] [.sh, .sh] _ b_law_half _
  exact (c_ret (d_op g_add (DE.b (d_op g_mul (DE.b (d_op g_ix (DE.b (d_var 0)) (DE.b d_int))) (DE.b (d_op g_ix (DE.b (d_lst (da_cons d_int (da_cons d_int (da_cons d_int (da_cons d_int (da_cons d_int (da_cons d_int (da_cons d_int (da_cons d_int (da_cons d_int (da_cons d_int (da_cons d_int da_nil))))))))))))) (DE.b (d_op g_ix (DE.b (d_var 1)) (DE.b d_int))))))) (DE.b d_int)) hrk)
theorem sc_law_sides : FnScope ["kind", "looks", "fresh", "cell", "whole", "unit", "first", "last", "tops", "parts"] ["kind", "looks", "fresh", "cell"] (defScope s_law_sides) := ⟨rfl, rfl, rfl, by decide +kernel, rfl, by decide +kernel, by decide +kernel⟩
theorem ok_law_sides {f : Addr} {fd : FuncData}  (F : FnP K "_law_sides" s_law_sides f fd) (hB : ∀ x ∈ bts, mg x = none)      : FnOk P w K mg base CX0 1 f fd ["kind", "looks", "fresh", "cell"] (spD K mg F_law_sides [.sh, .sh, .sh, .sh] .sh) := by
  show FnOk P w K mg base CX0 (0 + 1) f fd ["kind", "looks", "fresh", "cell"] (spD K mg (fnD 10 4 .sh b_law_sides) [.sh, .sh, .sh, .sh] .sh)
  refine fn_ok (k := 0) (ps := [.sh, .sh, .sh, .sh]) (rk := .sh) (b := b_law_sides) (O1 := []) (N := ["kind", "looks", "fresh", "cell", "whole", "unit", "first", "last", "tops", "parts"]) F sc_law_sides rfl (of_decide_eq_true rfl) (fun cdv A outer s H E hr => ⟨_, (pss_cons (ps_asg (pv 1) (pg_tup rfl (pgs_cons (pg_name (i := 8) sc_law_sides.nd rfl (by first | exact Or.inl rfl | exact Or.inr rfl)) (pgs_cons (pg_name (i := 9) sc_law_sides.nd rfl (by first | exact Or.inl rfl | exact Or.inr rfl)) pgs_nil)))) (pss_cons (ps_set (i := 4) sc_law_sides.nd rfl (by first | exact Or.inl rfl | exact Or.inr rfl) (pe_op op_shlW pe_int (pe_op op_addU (pv 8) (pv 9)))) (pss_cons (ps_set (i := 5) sc_law_sides.nd rfl (by first | exact Or.inl rfl | exact Or.inr rfl) (pe_op op_mulX pe_int (pe_ix ix_seq (pv 0) pe_int (fun _ _ => rfl)))) (pss_cons (ps_set (i := 6) sc_law_sides.nd rfl (by first | exact Or.inl rfl | exact Or.inr rfl) (pe_op op_sub (pe_op op_shlW (pe_ix ix_seq (pv 3) pe_int (fun _ _ => rfl)) (pe_op op_addU (pv 9) (pv 2))) (pv 4))) (pss_cons (ps_set (i := 7) sc_law_sides.nd rfl (by first | exact Or.inl rfl | exact Or.inr rfl) (pe_op op_addU (pe_op op_shlW (pe_op op_addU (pe_ix ix_seq (pv 3) pe_int (fun _ _ => rfl)) pe_int) (pe_op op_addU (pv 9) (pv 2))) (pv 4))) (pss_one (ps_ret (pe_lst (pa_cons (pe_op op_mulX (pv 5) (pv 6)) (pa_cons (pe_op op_mulX (pv 5) (pv 7)) (pa_cons (pe_op op_shlW (pe_op op_mulX (pv 5) (pe_ix ix_seq (pv 3) pe_int (fun _ _ => rfl))) (pe_op op_addU (pv 8) (pv 2))) (pa_cons (pe_op op_shlW (pe_op op_mulX (pv 5) (pe_op op_addU (pe_ix ix_seq (pv 3) pe_int (fun _ _ => rfl)) pe_int)) (pe_op op_addU (pv 8) (pv 2))) (pa_cons (pv 4) pa_nil))))))))))))), fun c hps hrk hmg => ?_⟩)
  show DC K c [] [.sh, .sh, .sh, .sh, .sh, .sh, .sh, .sh, .sh, .sh] _ b_law_sides _
  exact (c_cons (c_asg (d_var 1) (g_tup (gs_cons (g_name 8) (gs_cons (g_name 9) gs_nil)))) (c_cons (c_set 4 (d_op g_shl (DE.b d_int) (DE.b (d_op g_add (DE.b (d_var 8)) (DE.b (d_var 9)))))) (c_cons (c_set 5 (d_op g_mul (DE.b d_int) (DE.b (d_op g_ix (DE.b (d_var 0)) (DE.b d_int))))) (c_cons (c_set 6 (d_op g_sub (DE.b (d_op g_shl (DE.b (d_op g_ix (DE.b (d_var 3)) (DE.b d_int))) (DE.b (d_op g_add (DE.b (d_var 9)) (DE.b (d_var 2)))))) (DE.b (d_var 4)))) (c_cons (c_set 7 (d_op g_add (DE.b (d_op g_shl (DE.b (d_op g_add (DE.b (d_op g_ix (DE.b (d_var 3)) (DE.b d_int))) (DE.b d_int))) (DE.b (d_op g_add (DE.b (d_var 9)) (DE.b (d_var 2)))))) (DE.b (d_var 4)))) (c_ret (d_lst (da_cons (d_op g_mul (DE.b (d_var 5)) (DE.b (d_var 6))) (da_cons (d_op g_mul (DE.b (d_var 5)) (DE.b (d_var 7))) (da_cons (d_op g_shl (DE.b (d_op g_mul (DE.b (d_var 5)) (DE.b (d_op g_ix (DE.b (d_var 3)) (DE.b d_int))))) (DE.b (d_op g_add (DE.b (d_var 8)) (DE.b (d_var 2))))) (da_cons (d_op g_shl (DE.b (d_op g_mul (DE.b (d_var 5)) (DE.b (d_op g_add (DE.b (d_op g_ix (DE.b (d_var 3)) (DE.b d_int))) (DE.b d_int))))) (DE.b (d_op g_add (DE.b (d_var 8)) (DE.b (d_var 2))))) (da_cons (d_var 4) da_nil)))))) hrk))))))
theorem sc_law_cut : FnScope ["places", "x", "y", "w", "found", "k", "one", "other", "here", "there", "share", "rest", "j"] ["places", "x", "y", "w"] (defScope s_law_cut) := ⟨rfl, rfl, rfl, by decide +kernel, rfl, by decide +kernel, by decide +kernel⟩
theorem ok_law_cut {f : Addr} {fd : FuncData}  (F : FnP K "_law_cut" s_law_cut f fd) (hB : ∀ x ∈ bts, mg x = none)      : FnOk P w K mg base CX0 1 f fd ["places", "x", "y", "w"] (spD K mg F_law_cut [.sh, .sh, .sh, .sh] .sh) := by
  show FnOk P w K mg base CX0 (0 + 1) f fd ["places", "x", "y", "w"] (spD K mg (fnD 13 4 .sh b_law_cut) [.sh, .sh, .sh, .sh] .sh)
  refine fn_ok (k := 0) (ps := [.sh, .sh, .sh, .sh]) (rk := .sh) (b := b_law_cut) (O1 := []) (N := ["places", "x", "y", "w", "found", "k", "one", "other", "here", "there", "share", "rest", "j"]) F sc_law_cut rfl (of_decide_eq_true rfl) (fun cdv A outer s H E hr => ⟨_, (pss_cons (ps_set (i := 4) sc_law_cut.nd rfl (by first | exact Or.inl rfl | exact Or.inr rfl) (pe_lst pa_nil)) (pss_cons (ps_for PassesOwn.never rfl (pi_range1 rfl (hB "range" (by decide +kernel)) (pa_cons (pe_callB call_len rfl (hB "len" (by decide +kernel)) bt_len (pa_cons (pv 0) pa_nil)) pa_nil)) (pg_name (i := 5) sc_law_cut.nd rfl (by first | exact Or.inl rfl | exact Or.inr rfl)) (pss_cons (ps_set (i := 6) sc_law_cut.nd rfl (by first | exact Or.inl rfl | exact Or.inr rfl) (pe_ix ix_seq (pv 0) (pe_op op_sub (pv 5) pe_int) (fun _ _ => rfl))) (pss_cons (ps_set (i := 7) sc_law_cut.nd rfl (by first | exact Or.inl rfl | exact Or.inr rfl) (pe_ix ix_seq (pv 0) (pv 5) (fun _ _ => rfl))) (pss_cons (ps_set (i := 8) sc_law_cut.nd rfl (by first | exact Or.inl rfl | exact Or.inr rfl) (pe_op op_addU (pe_op op_addU (pe_op op_mulX (pv 1) (pe_ix ix_seq (pv 6) pe_int (fun _ _ => rfl))) (pe_op op_mulX (pv 2) (pe_ix ix_seq (pv 6) pe_int (fun _ _ => rfl)))) (pe_op op_mulX (pv 3) (pe_ix ix_seq (pv 6) pe_int (fun _ _ => rfl))))) (pss_cons (ps_set (i := 9) sc_law_cut.nd rfl (by first | exact Or.inl rfl | exact Or.inr rfl) (pe_op op_addU (pe_op op_addU (pe_op op_mulX (pv 1) (pe_ix ix_seq (pv 7) pe_int (fun _ _ => rfl))) (pe_op op_mulX (pv 2) (pe_ix ix_seq (pv 7) pe_int (fun _ _ => rfl)))) (pe_op op_mulX (pv 3) (pe_ix ix_seq (pv 7) pe_int (fun _ _ => rfl))))) (pss_cons (ps_if (PW.pt (pw_or (PW.pt (pw_and (pt_chain op_lt op_le (pv 8) pe_int (pv 9)) (pw_and1 (pt_cmpR op_gt (pv 9) pe_int (nomark _))))) (pw_or1 (pt_chain op_lt op_lt (pv 9) pe_int (pv 8))))) (pss_cons (ps_set (i := 10) sc_law_cut.nd rfl (by first | exact Or.inl rfl | exact Or.inr rfl) (pe_callB (call_maxT rfl) rfl (hB "max" (by decide +kernel)) bt_max (pa_cons (pv 8) (pa_cons (pe_op op_sub pe_int (pv 8)) pa_nil)))) (pss_cons (ps_set (i := 11) sc_law_cut.nd rfl (by first | exact Or.inl rfl | exact Or.inr rfl) (pe_callB (call_maxT rfl) rfl (hB "max" (by decide +kernel)) bt_max (pa_cons (pv 9) (pa_cons (pe_op op_sub pe_int (pv 9)) pa_nil)))) (pss_one (ps_expr (pe_bm PySem.F.plainAttrs_list PySem.F.slot_list_append PySem.F.type_list_append mt_append (pv 4) (pa_cons (pe_callTy call_tuple_of rfl (hB "tuple" (by decide +kernel)) bt_tuple (pa_cons (pe_lcD (K := K) (O := [.sh, .sh, .sh, .sh, (.ls .sh), .sh, .sh, .sh, .sh, .sh, .sh, .sh, .sh]) (own := [("j", 12)]) (g := gName 12) (fun _ => d_yes) (fun _ => (DE.o (d_op g_add (DE.b (d_op g_mul (DE.b (d_var 11)) (DE.b (d_op g_ix (DE.b (d_var 6)) (DE.b (d_var 12)))))) (DE.b (d_op g_mul (DE.b (d_var 10)) (DE.b (d_op g_ix (DE.b (d_var 7)) (DE.b (d_var 12))))))))) (by rfl) sc_law_cut.nd (pi_range1 rfl (hB "range" (by decide +kernel)) (pa_cons pe_int pa_nil)) (blkOk_by (own := [("j", 12)]) (N := ["places", "x", "y", "w", "found", "k", "one", "other", "here", "there", "share", "rest", "j"]) (sc := defScope s_law_cut) (by decide +kernel)) (fun _ _ _ _ _ => (pg_name (i := 12) sc_law_cut.nd rfl (by first | exact Or.inl rfl | exact Or.inr rfl))) (fun _ _ _ _ _ => pts_nil) (fun _ _ _ _ _ => (pe_op op_addU (pe_op op_mulX (pv 11) (pe_ix ix_seq (pv 6) (pv 12) (fun _ _ => rfl))) (pe_op op_mulX (pv 10) (pe_ix ix_seq (pv 7) (pv 12) (fun _ _ => rfl)))))) pa_nil)) pa_nil)))))) pss_nil) (pss_one (ps_if (pt_cmpR op_ge (pv 9) pe_int (nomark _)) (pss_one (ps_expr (pe_bm PySem.F.plainAttrs_list PySem.F.slot_list_append PySem.F.type_list_append mt_append (pv 4) (pa_cons (pv 7) pa_nil)))) pss_nil)))))))) (pss_one (ps_ret (pv 4))))), fun c hps hrk hmg => ?_⟩)
  show DC K c [] [.sh, .sh, .sh, .sh, .sh, .sh, .sh, .sh, .sh, .sh, .sh, .sh, .sh] _ b_law_cut _
  exact (c_cons (c_setO 4 (o_lst da_nil)) (c_cons (c_for (i_r1 (da_cons (d_cb g_len (dab_cons (DE.b (d_var 0)) dab_nil)) da_nil)) (g_name 5) (c_cons (c_set 6 (d_op g_ix (DE.b (d_var 0)) (DE.b (d_op g_sub (DE.b (d_var 5)) (DE.b d_int))))) (c_cons (c_set 7 (d_op g_ix (DE.b (d_var 0)) (DE.b (d_var 5)))) (c_cons (c_set 8 (d_op g_add (DE.b (d_op g_add (DE.b (d_op g_mul (DE.b (d_var 1)) (DE.b (d_op g_ix (DE.b (d_var 6)) (DE.b d_int))))) (DE.b (d_op g_mul (DE.b (d_var 2)) (DE.b (d_op g_ix (DE.b (d_var 6)) (DE.b d_int))))))) (DE.b (d_op g_mul (DE.b (d_var 3)) (DE.b (d_op g_ix (DE.b (d_var 6)) (DE.b d_int))))))) (c_cons (c_set 9 (d_op g_add (DE.b (d_op g_add (DE.b (d_op g_mul (DE.b (d_var 1)) (DE.b (d_op g_ix (DE.b (d_var 7)) (DE.b d_int))))) (DE.b (d_op g_mul (DE.b (d_var 2)) (DE.b (d_op g_ix (DE.b (d_var 7)) (DE.b d_int))))))) (DE.b (d_op g_mul (DE.b (d_var 3)) (DE.b (d_op g_ix (DE.b (d_var 7)) (DE.b d_int))))))) (c_cons (c_if (d_or (d_and (d_test (d_chain g_lt g_le (d_var 8) d_int (d_var 9))) (d_test (d_op g_gt (DE.b (d_var 9)) (DE.b d_int)))) (d_test (d_chain g_lt g_lt (d_var 9) d_int (d_var 8)))) (c_cons (c_set 10 (d_cb g_maxT (dab_cons (DE.b (d_var 8)) (dab_cons (DE.b (d_op g_sub (DE.b d_int) (DE.b (d_var 8)))) dab_nil)))) (c_cons (c_set 11 (d_cb g_maxT (dab_cons (DE.b (d_var 9)) (dab_cons (DE.b (d_op g_sub (DE.b d_int) (DE.b (d_var 9)))) dab_nil)))) (c_app 4 (d_cb g_tuple (dab_cons (DE.b (DO.e (o_lc (vs := [12]) (i_r1 (da_cons d_int da_nil)) (fun _ => (v_name 12)) (fun _ => d_yes) (fun _ => (DE.o (d_op g_add (DE.b (d_op g_mul (DE.b (d_var 11)) (DE.b (d_op g_ix (DE.b (d_var 6)) (DE.b (d_var 12)))))) (DE.b (d_op g_mul (DE.b (d_var 10)) (DE.b (d_op g_ix (DE.b (d_var 7)) (DE.b (d_var 12))))))))) (by first | decide | (intro v hv; simp only [List.mem_cons, List.not_mem_nil, or_false] at hv; first | (rcases hv with rfl <;> rfl) | (rcases hv with rfl | rfl <;> rfl) | (rcases hv with rfl | rfl | rfl <;> rfl)))))) dab_nil))))) c_nil) (c_if (d_test (d_op g_ge (DE.b (d_var 9)) (DE.b d_int))) (c_app 4 (d_var 7)) c_nil))))))) (c_frz 4 rfl (c_ret (d_var 4) hrk))))
theorem sc_law_places : FnScope ["kind", "looks", "fresh", "cell", "less", "most", "ring", "left", "right", "low", "high", "z"] ["kind", "looks", "fresh", "cell"] (defScope s_law_places) := ⟨rfl, rfl, rfl, by decide +kernel, rfl, by decide +kernel, by decide +kernel⟩
theorem ok_law_places {f : Addr} {fd : FuncData}  (F : FnP K "_law_places" s_law_places f fd) (hB : ∀ x ∈ bts, mg x = none)     (h_law_sides : Fk P w K mg base "_law_sides" 1 ["kind", "looks", "fresh", "cell"] (spD K mg F_law_sides [.sh, .sh, .sh, .sh] .sh)) (h_law_cut : Fk P w K mg base "_law_cut" 1 ["places", "x", "y", "w"] (spD K mg F_law_cut [.sh, .sh, .sh, .sh] .sh)) : FnOk P w K mg base CX0 2 f fd ["kind", "looks", "fresh", "cell"] (spD K mg F_law_places [.sh, .sh, .sh, .sh] .sh) := by
  obtain ⟨_, _, G_law_sides, mg_law_sides, kp_law_sides, bi_law_sides⟩ := h_law_sides
  obtain ⟨_, _, G_law_cut, mg_law_cut, kp_law_cut, bi_law_cut⟩ := h_law_cut
  show FnOk P w K mg base CX0 (1 + 1) f fd ["kind", "looks", "fresh", "cell"] (spD K mg (fnD 12 4 .sh b_law_places) [.sh, .sh, .sh, .sh] .sh)
  refine fn_ok (k := 1) (ps := [.sh, .sh, .sh, .sh]) (rk := .sh) (b := b_law_places) (O1 := []) (N := ["kind", "looks", "fresh", "cell", "less", "most", "ring", "left", "right", "low", "high", "z"]) F sc_law_places rfl (of_decide_eq_true rfl) (fun cdv A outer s H E hr => ⟨_, (pss_cons (ps_asg (pe_call G_law_sides (hr.mono (by decide)) rfl mg_law_sides kp_law_sides bi_law_sides .nil pass0 (pa_cons (pv 0) (pa_cons (pv 1) (pa_cons (pv 2) (pa_cons (pv 3) pa_nil))))) (pg_unl rfl (pgs_cons (pg_name (i := 7) sc_law_places.nd rfl (by first | exact Or.inl rfl | exact Or.inr rfl)) (pgs_cons (pg_name (i := 8) sc_law_places.nd rfl (by first | exact Or.inl rfl | exact Or.inr rfl)) (pgs_cons (pg_name (i := 9) sc_law_places.nd rfl (by first | exact Or.inl rfl | exact Or.inr rfl)) (pgs_cons (pg_name (i := 10) sc_law_places.nd rfl (by first | exact Or.inl rfl | exact Or.inr rfl)) (pgs_cons (pg_name (i := 11) sc_law_places.nd rfl (by first | exact Or.inl rfl | exact Or.inr rfl)) pgs_nil))))))) (pss_cons (ps_set (i := 4) sc_law_places.nd rfl (by first | exact Or.inl rfl | exact Or.inr rfl) (pe_op op_sub (pe_ix ix_seq (pv 0) pe_int (fun _ _ => rfl)) pe_int)) (pss_cons (ps_set (i := 5) sc_law_places.nd rfl (by first | exact Or.inl rfl | exact Or.inr rfl) (pe_op op_mulX (pe_ix ix_seq (pv 0) pe_int (fun _ _ => rfl)) (pe_ix ix_seq (pv 0) pe_int (fun _ _ => rfl)))) (pss_cons (ps_set (i := 6) sc_law_places.nd rfl (by first | exact Or.inl rfl | exact Or.inr rfl) (pe_lst (pa_cons (pe_tup (pa_cons (pv 7) (pa_cons (pv 9) (pa_cons pe_int pa_nil)))) (pa_cons (pe_tup (pa_cons (pv 8) (pa_cons (pv 9) (pa_cons pe_int pa_nil)))) (pa_cons (pe_tup (pa_cons (pv 8) (pa_cons (pv 10) (pa_cons pe_int pa_nil)))) (pa_cons (pe_tup (pa_cons (pv 7) (pa_cons (pv 10) (pa_cons pe_int pa_nil)))) pa_nil)))))) (pss_cons (ps_set (i := 6) sc_law_places.nd rfl (by first | exact Or.inl rfl | exact Or.inr rfl) (pe_call G_law_cut (hr.mono (by decide)) rfl mg_law_cut kp_law_cut bi_law_cut .nil pass0 (pa_cons (pv 6) (pa_cons (pv 5) (pa_cons (pv 4) (pa_cons pe_int pa_nil)))))) (pss_one (ps_ret (pe_call G_law_cut (hr.mono (by decide)) rfl mg_law_cut kp_law_cut bi_law_cut .nil pass0 (pa_cons (pv 6) (pa_cons (pe_op op_mulX (pv 5) (pv 4)) (pa_cons (pe_op op_sub pe_int (pe_op op_mulX (pv 4) (pv 4))) (pa_cons (pe_op op_mulX (pe_op op_mulX (pv 5) (pv 5)) (pv 11)) pa_nil)))))))))))), fun c hps hrk hmg => ?_⟩)
  show DC K c [] [.sh, .sh, .sh, .sh, .sh, .sh, .sh, .sh, .sh, .sh, .sh, .sh] _ b_law_places _
  exact (c_cons (c_asg (DO.sh (o_call (da_cons (d_var 0) (da_cons (d_var 1) (da_cons (d_var 2) (da_cons (d_var 3) da_nil)))))) (g_unl (gs_cons (g_name 7) (gs_cons (g_name 8) (gs_cons (g_name 9) (gs_cons (g_name 10) (gs_cons (g_name 11) gs_nil))))))) (c_cons (c_set 4 (d_op g_sub (DE.b (d_op g_ix (DE.b (d_var 0)) (DE.b d_int))) (DE.b d_int))) (c_cons (c_set 5 (d_op g_mul (DE.b (d_op g_ix (DE.b (d_var 0)) (DE.b d_int))) (DE.b (d_op g_ix (DE.b (d_var 0)) (DE.b d_int))))) (c_cons (c_set 6 (d_lst (da_cons (d_tup (da_cons (d_var 7) (da_cons (d_var 9) (da_cons d_int da_nil)))) (da_cons (d_tup (da_cons (d_var 8) (da_cons (d_var 9) (da_cons d_int da_nil)))) (da_cons (d_tup (da_cons (d_var 8) (da_cons (d_var 10) (da_cons d_int da_nil)))) (da_cons (d_tup (da_cons (d_var 7) (da_cons (d_var 10) (da_cons d_int da_nil)))) da_nil)))))) (c_cons (c_set 6 (DO.sh (o_call (da_cons (d_var 6) (da_cons (d_var 5) (da_cons (d_var 4) (da_cons d_int da_nil))))))) (c_ret (DO.sh (o_call (da_cons (d_var 6) (da_cons (d_op g_mul (DE.b (d_var 5)) (DE.b (d_var 4))) (da_cons (d_op g_sub (DE.b d_int) (DE.b (d_op g_mul (DE.b (d_var 4)) (DE.b (d_var 4))))) (da_cons (d_op g_mul (DE.b (d_op g_mul (DE.b (d_var 5)) (DE.b (d_var 5)))) (DE.b (d_var 11))) da_nil)))))) hrk))))))
theorem sc_law_root_good : FnScope ["kind", "looks", "fresh", "cell", "ring", "z", "less", "found", "figure", "upper", "lower", "good", "x", "y", "w", "floor"] ["kind", "looks", "fresh", "cell"] (defScope s_law_root_good) := ⟨rfl, rfl, rfl, by decide +kernel, rfl, by decide +kernel, by decide +kernel⟩
theorem ok_law_root_good {f : Addr} {fd : FuncData}  (F : FnP K "_law_root_good" s_law_root_good f fd) (hB : ∀ x ∈ bts, mg x = none)     (h_law_places : Fk P w K mg base "_law_places" 2 ["kind", "looks", "fresh", "cell"] (spD K mg F_law_places [.sh, .sh, .sh, .sh] .sh)) (h_law_sides : Fk P w K mg base "_law_sides" 1 ["kind", "looks", "fresh", "cell"] (spD K mg F_law_sides [.sh, .sh, .sh, .sh] .sh)) : FnOk P w K mg base CX0 3 f fd ["kind", "looks", "fresh", "cell"] (spD K mg F_law_root_good [.sh, .sh, .sh, .sh] .sh) := by
  obtain ⟨_, _, G_law_places, mg_law_places, kp_law_places, bi_law_places⟩ := h_law_places
  obtain ⟨_, _, G_law_sides, mg_law_sides, kp_law_sides, bi_law_sides⟩ := h_law_sides
  show FnOk P w K mg base CX0 (2 + 1) f fd ["kind", "looks", "fresh", "cell"] (spD K mg (fnD 16 4 .sh b_law_root_good) [.sh, .sh, .sh, .sh] .sh)
  refine fn_ok (k := 2) (ps := [.sh, .sh, .sh, .sh]) (rk := .sh) (b := b_law_root_good) (O1 := []) (N := ["kind", "looks", "fresh", "cell", "ring", "z", "less", "found", "figure", "upper", "lower", "good", "x", "y", "w", "floor"]) F sc_law_root_good rfl (of_decide_eq_true rfl) (fun cdv A outer s H E hr => ⟨_, (pss_cons (ps_set (i := 4) sc_law_root_good.nd rfl (by first | exact Or.inl rfl | exact Or.inr rfl) (pe_call G_law_places (hr.mono (by decide)) rfl mg_law_places kp_law_places bi_law_places .nil pass0 (pa_cons (pv 0) (pa_cons (pv 1) (pa_cons (pv 2) (pa_cons (pv 3) pa_nil)))))) (pss_cons (ps_if (pt_cmpR (op_eqD hr.units) (pv 4) (pe_lst pa_nil) (nomark _)) (pss_one (ps_ret pe_non)) pss_nil) (pss_cons (ps_set (i := 5) sc_law_root_good.nd rfl (by first | exact Or.inl rfl | exact Or.inr rfl) (pe_ix ix_seq (pe_call G_law_sides (hr.mono (by decide)) rfl mg_law_sides kp_law_sides bi_law_sides .nil pass0 (pa_cons (pv 0) (pa_cons (pv 1) (pa_cons (pv 2) (pa_cons (pv 3) pa_nil))))) pe_int (fun _ _ => rfl))) (pss_cons (ps_set (i := 6) sc_law_root_good.nd rfl (by first | exact Or.inl rfl | exact Or.inr rfl) (pe_op op_sub (pe_ix ix_seq (pv 0) pe_int (fun _ _ => rfl)) pe_int)) (pss_cons (ps_set (i := 7) sc_law_root_good.nd rfl (by first | exact Or.inl rfl | exact Or.inr rfl) (pe_lst pa_nil)) (pss_cons (ps_for PassesOwn.never rfl (pi_range2 rfl (hB "range" (by decide +kernel)) (pa_cons (pe_op op_sub pe_int (pe_ix ix_seq (pv 0) pe_int (fun _ _ => rfl))) (pa_cons (pe_op op_addU (pe_ix ix_seq (pv 0) pe_int (fun _ _ => rfl)) pe_int) pa_nil))) (pg_name (i := 8) sc_law_root_good.nd rfl (by first | exact Or.inl rfl | exact Or.inr rfl)) (pss_cons (ps_set (i := 9) sc_law_root_good.nd rfl (by first | exact Or.inl rfl | exact Or.inr rfl) (pe_op op_addU (pe_op op_mulX (pv 8) (pv 6)) (pe_ix ix_seq (pv 0) pe_int (fun _ _ => rfl)))) (pss_cons (ps_set (i := 10) sc_law_root_good.nd rfl (by first | exact Or.inl rfl | exact Or.inr rfl) (pe_op op_sub (pe_op op_mulX (pv 8) (pv 6)) (pe_ix ix_seq (pv 0) pe_int (fun _ _ => rfl)))) (pss_cons (ps_set (i := 11) sc_law_root_good.nd rfl (by first | exact Or.inl rfl | exact Or.inr rfl) pe_bl) (pss_cons (ps_for PassesOwn.never rfl (pi_seq (pv 4)) (pg_tup rfl (pgs_cons (pg_name (i := 12) sc_law_root_good.nd rfl (by first | exact Or.inl rfl | exact Or.inr rfl)) (pgs_cons (pg_name (i := 13) sc_law_root_good.nd rfl (by first | exact Or.inl rfl | exact Or.inr rfl)) (pgs_cons (pg_name (i := 14) sc_law_root_good.nd rfl (by first | exact Or.inl rfl | exact Or.inr rfl)) pgs_nil)))) (pss_cons (ps_if (PW.pt (pw_and (pt_cmpR (op_neD hr.units) (pv 8) (pe_ix ix_seq (pv 0) pe_int (fun _ _ => rfl)) (nomark _)) (pw_and1 (pt_cmpR op_gt (pe_op op_mulX (pv 6) (pv 13)) (pe_op op_mulX (pv 9) (pv 12)) (nomark _))))) (pss_one (ps_set (i := 11) sc_law_root_good.nd rfl (by first | exact Or.inl rfl | exact Or.inr rfl) pe_bl)) pss_nil) (pss_cons (ps_set (i := 15) sc_law_root_good.nd rfl (by first | exact Or.inl rfl | exact Or.inr rfl) (pe_op op_addU (pe_op op_mulX (pe_op op_mulX (pv 6) (pv 10)) (pv 12)) (pe_op op_mulX (pe_op op_mulX (pe_op op_mulX (pv 10) (pv 10)) (pv 5)) (pv 14)))) (pss_one (ps_if (PW.pt (pw_and (pt_cmpR (op_neD hr.units) (pv 8) (pe_op op_sub pe_int (pe_ix ix_seq (pv 0) pe_int (fun _ _ => rfl))) (nomark _)) (pw_and1 (pt_cmpR op_lt (pe_op op_mulX (pe_op op_mulX (pv 6) (pv 6)) (pv 13)) (pv 15) (nomark _))))) (pss_one (ps_set (i := 11) sc_law_root_good.nd rfl (by first | exact Or.inl rfl | exact Or.inr rfl) pe_bl)) pss_nil))))) (pss_one (ps_if (pt_val (pv 11)) (pss_one (ps_expr (pe_bm PySem.F.plainAttrs_list PySem.F.slot_list_append PySem.F.type_list_append mt_append (pv 7) (pa_cons (pv 8) pa_nil)))) pss_nil))))))) (pss_one (ps_ret (pv 7))))))))), fun c hps hrk hmg => ?_⟩)
  show DC K c [] [.sh, .sh, .sh, .sh, .sh, .sh, .sh, .sh, .sh, .sh, .sh, .sh, .sh, .sh, .sh, .sh] _ b_law_root_good _
  exact (c_cons (c_set 4 (DO.sh (o_call (da_cons (d_var 0) (da_cons (d_var 1) (da_cons (d_var 2) (da_cons (d_var 3) da_nil))))))) (c_cons (c_if (d_test (d_op g_eq (DE.b (d_var 4)) (DE.b (d_lst da_nil)))) (c_ret d_non hrk) c_nil) (c_cons (c_set 5 (d_op g_ix (DE.b (DO.sh (o_call (da_cons (d_var 0) (da_cons (d_var 1) (da_cons (d_var 2) (da_cons (d_var 3) da_nil))))))) (DE.b d_int))) (c_cons (c_set 6 (d_op g_sub (DE.b (d_op g_ix (DE.b (d_var 0)) (DE.b d_int))) (DE.b d_int))) (c_cons (c_setO 7 (o_lst da_nil)) (c_cons (c_for (i_r2 (da_cons (d_op g_sub (DE.b d_int) (DE.b (d_op g_ix (DE.b (d_var 0)) (DE.b d_int)))) (da_cons (d_op g_add (DE.b (d_op g_ix (DE.b (d_var 0)) (DE.b d_int))) (DE.b d_int)) da_nil))) (g_name 8) (c_cons (c_set 9 (d_op g_add (DE.b (d_op g_mul (DE.b (d_var 8)) (DE.b (d_var 6)))) (DE.b (d_op g_ix (DE.b (d_var 0)) (DE.b d_int))))) (c_cons (c_set 10 (d_op g_sub (DE.b (d_op g_mul (DE.b (d_var 8)) (DE.b (d_var 6)))) (DE.b (d_op g_ix (DE.b (d_var 0)) (DE.b d_int))))) (c_cons (c_set 11 d_bl) (c_cons (c_for (i_seq (d_var 4)) (g_tup (gs_cons (g_name 12) (gs_cons (g_name 13) (gs_cons (g_name 14) gs_nil)))) (c_cons (c_if (d_and (d_test (d_op g_ne (DE.b (d_var 8)) (DE.b (d_op g_ix (DE.b (d_var 0)) (DE.b d_int))))) (d_test (d_op g_gt (DE.b (d_op g_mul (DE.b (d_var 6)) (DE.b (d_var 13)))) (DE.b (d_op g_mul (DE.b (d_var 9)) (DE.b (d_var 12))))))) (c_set 11 d_bl) c_nil) (c_cons (c_set 15 (d_op g_add (DE.b (d_op g_mul (DE.b (d_op g_mul (DE.b (d_var 6)) (DE.b (d_var 10)))) (DE.b (d_var 12)))) (DE.b (d_op g_mul (DE.b (d_op g_mul (DE.b (d_op g_mul (DE.b (d_var 10)) (DE.b (d_var 10)))) (DE.b (d_var 5)))) (DE.b (d_var 14)))))) (c_if (d_and (d_test (d_op g_ne (DE.b (d_var 8)) (DE.b (d_op g_sub (DE.b d_int) (DE.b (d_op g_ix (DE.b (d_var 0)) (DE.b d_int))))))) (d_test (d_op g_lt (DE.b (d_op g_mul (DE.b (d_op g_mul (DE.b (d_var 6)) (DE.b (d_var 6)))) (DE.b (d_var 13)))) (DE.b (d_var 15))))) (c_set 11 d_bl) c_nil)))) (c_if (d_tB (d_var 11)) (c_app 7 (d_var 8)) c_nil)))))) (c_frz 7 rfl (c_ret (d_var 7) hrk))))))))
theorem sc_root_edges : FnScope ["kind", "looks", "fresh", "cell", "whole", "unit", "left", "right", "low", "high", "tops", "parts", "top", "look"] ["kind", "looks", "fresh", "cell"] (defScope s_root_edges) := ⟨rfl, rfl, rfl, by decide +kernel, rfl, by decide +kernel, by decide +kernel⟩
theorem ok_root_edges {f : Addr} {fd : FuncData}  (F : FnP K "root_edges" s_root_edges f fd) (hB : ∀ x ∈ bts, mg x = none)      : FnOk P w K mg base CX0 1 f fd ["kind", "looks", "fresh", "cell"] (spD K mg F_root_edges [.sh, .sh, .sh, .sh] .sh) := by
  show FnOk P w K mg base CX0 (0 + 1) f fd ["kind", "looks", "fresh", "cell"] (spD K mg (fnD 14 4 .sh b_root_edges) [.sh, .sh, .sh, .sh] .sh)
  refine fn_ok (k := 0) (ps := [.sh, .sh, .sh, .sh]) (rk := .sh) (b := b_root_edges) (O1 := []) (N := ["kind", "looks", "fresh", "cell", "whole", "unit", "left", "right", "low", "high", "tops", "parts", "top", "look"]) F sc_root_edges rfl (of_decide_eq_true rfl) (fun cdv A outer s H E hr => ⟨_, (pss_cons (ps_asg (pv 1) (pg_tup rfl (pgs_cons (pg_name (i := 10) sc_root_edges.nd rfl (by first | exact Or.inl rfl | exact Or.inr rfl)) (pgs_cons (pg_name (i := 11) sc_root_edges.nd rfl (by first | exact Or.inl rfl | exact Or.inr rfl)) pgs_nil)))) (pss_cons (ps_asg (pv 3) (pg_tup rfl (pgs_cons (pg_name (i := 12) sc_root_edges.nd rfl (by first | exact Or.inl rfl | exact Or.inr rfl)) (pgs_cons (pg_name (i := 13) sc_root_edges.nd rfl (by first | exact Or.inl rfl | exact Or.inr rfl)) pgs_nil)))) (pss_cons (ps_set (i := 4) sc_root_edges.nd rfl (by first | exact Or.inl rfl | exact Or.inr rfl) (pe_op op_shlW pe_int (pe_op op_addU (pv 10) (pv 11)))) (pss_cons (ps_set (i := 5) sc_root_edges.nd rfl (by first | exact Or.inl rfl | exact Or.inr rfl) (pe_op op_mulX pe_int (pe_ix ix_seq (pv 0) pe_int (fun _ _ => rfl)))) (pss_cons (ps_set (i := 6) sc_root_edges.nd rfl (by first | exact Or.inl rfl | exact Or.inr rfl) (pe_op op_mulX (pv 5) (pe_op op_sub (pe_op op_shlW (pv 12) (pe_op op_addU (pv 11) (pv 2))) (pv 4)))) (pss_cons (ps_set (i := 7) sc_root_edges.nd rfl (by first | exact Or.inl rfl | exact Or.inr rfl) (pe_op op_mulX (pv 5) (pe_op op_addU (pe_op op_shlW (pe_op op_addU (pv 12) pe_int) (pe_op op_addU (pv 11) (pv 2))) (pv 4)))) (pss_cons (ps_set (i := 8) sc_root_edges.nd rfl (by first | exact Or.inl rfl | exact Or.inr rfl) (pe_op op_mulX (pv 5) (pe_op op_shlW (pv 13) (pe_op op_addU (pv 10) (pv 2))))) (pss_cons (ps_set (i := 9) sc_root_edges.nd rfl (by first | exact Or.inl rfl | exact Or.inr rfl) (pe_op op_mulX (pv 5) (pe_op op_shlW (pe_op op_addU (pv 13) pe_int) (pe_op op_addU (pv 10) (pv 2))))) (pss_one (ps_ret (pe_tup (pa_cons (pv 6) (pa_cons (pv 7) (pa_cons (pv 8) (pa_cons (pv 9) (pa_cons (pv 4) pa_nil)))))))))))))))), fun c hps hrk hmg => ?_⟩)
  show DC K c [] [.sh, .sh, .sh, .sh, .sh, .sh, .sh, .sh, .sh, .sh, .sh, .sh, .sh, .sh] _ b_root_edges _
  exact (c_cons (c_asg (d_var 1) (g_tup (gs_cons (g_name 10) (gs_cons (g_name 11) gs_nil)))) (c_cons (c_asg (d_var 3) (g_tup (gs_cons (g_name 12) (gs_cons (g_name 13) gs_nil)))) (c_cons (c_set 4 (d_op g_shl (DE.b d_int) (DE.b (d_op g_add (DE.b (d_var 10)) (DE.b (d_var 11)))))) (c_cons (c_set 5 (d_op g_mul (DE.b d_int) (DE.b (d_op g_ix (DE.b (d_var 0)) (DE.b d_int))))) (c_cons (c_set 6 (d_op g_mul (DE.b (d_var 5)) (DE.b (d_op g_sub (DE.b (d_op g_shl (DE.b (d_var 12)) (DE.b (d_op g_add (DE.b (d_var 11)) (DE.b (d_var 2)))))) (DE.b (d_var 4)))))) (c_cons (c_set 7 (d_op g_mul (DE.b (d_var 5)) (DE.b (d_op g_add (DE.b (d_op g_shl (DE.b (d_op g_add (DE.b (d_var 12)) (DE.b d_int))) (DE.b (d_op g_add (DE.b (d_var 11)) (DE.b (d_var 2)))))) (DE.b (d_var 4)))))) (c_cons (c_set 8 (d_op g_mul (DE.b (d_var 5)) (DE.b (d_op g_shl (DE.b (d_var 13)) (DE.b (d_op g_add (DE.b (d_var 10)) (DE.b (d_var 2)))))))) (c_cons (c_set 9 (d_op g_mul (DE.b (d_var 5)) (DE.b (d_op g_shl (DE.b (d_op g_add (DE.b (d_var 13)) (DE.b d_int))) (DE.b (d_op g_add (DE.b (d_var 10)) (DE.b (d_var 2)))))))) (c_ret (d_tup (da_cons (d_var 6) (da_cons (d_var 7) (da_cons (d_var 8) (da_cons (d_var 9) (da_cons (d_var 4) da_nil)))))) hrk)))))))))
theorem sc_is_root_met : FnScope ["kind", "looks", "fresh", "cell", "base", "most", "left", "right", "low", "high", "z"] ["kind", "looks", "fresh", "cell"] (defScope s_is_root_met) := ⟨rfl, rfl, rfl, by decide +kernel, rfl, by decide +kernel, by decide +kernel⟩
theorem ok_is_root_met {f : Addr} {fd : FuncData}  (F : FnP K "is_root_met" s_is_root_met f fd) (hB : ∀ x ∈ bts, mg x = none)     (h_root_edges : Fk P w K mg base "root_edges" 1 ["kind", "looks", "fresh", "cell"] (spD K mg F_root_edges [.sh, .sh, .sh, .sh] .sh)) : FnOk P w K mg base CX0 2 f fd ["kind", "looks", "fresh", "cell"] (spD K mg F_is_root_met [.sh, .sh, .sh, .sh] .sh) := by
  obtain ⟨_, _, G_root_edges, mg_root_edges, kp_root_edges, bi_root_edges⟩ := h_root_edges
  show FnOk P w K mg base CX0 (1 + 1) f fd ["kind", "looks", "fresh", "cell"] (spD K mg (fnD 11 4 .sh b_is_root_met) [.sh, .sh, .sh, .sh] .sh)
  refine fn_ok (k := 1) (ps := [.sh, .sh, .sh, .sh]) (rk := .sh) (b := b_is_root_met) (O1 := []) (N := ["kind", "looks", "fresh", "cell", "base", "most", "left", "right", "low", "high", "z"]) F sc_is_root_met rfl (of_decide_eq_true rfl) (fun cdv A outer s H E hr => ⟨_, (pss_cons (ps_asg (pv 0) (pg_tup rfl (pgs_cons (pg_name (i := 4) sc_is_root_met.nd rfl (by first | exact Or.inl rfl | exact Or.inr rfl)) (pgs_cons (pg_name (i := 5) sc_is_root_met.nd rfl (by first | exact Or.inl rfl | exact Or.inr rfl)) pgs_nil)))) (pss_cons (ps_asg (pe_call G_root_edges (hr.mono (by decide)) rfl mg_root_edges kp_root_edges bi_root_edges .nil pass0 (pa_cons (pv 0) (pa_cons (pv 1) (pa_cons (pv 2) (pa_cons (pv 3) pa_nil))))) (pg_tup rfl (pgs_cons (pg_name (i := 6) sc_is_root_met.nd rfl (by first | exact Or.inl rfl | exact Or.inr rfl)) (pgs_cons (pg_name (i := 7) sc_is_root_met.nd rfl (by first | exact Or.inl rfl | exact Or.inr rfl)) (pgs_cons (pg_name (i := 8) sc_is_root_met.nd rfl (by first | exact Or.inl rfl | exact Or.inr rfl)) (pgs_cons (pg_name (i := 9) sc_is_root_met.nd rfl (by first | exact Or.inl rfl | exact Or.inr rfl)) (pgs_cons (pg_name (i := 10) sc_is_root_met.nd rfl (by first | exact Or.inl rfl | exact Or.inr rfl)) pgs_nil))))))) (pss_cons (ps_if (pt_cmpR op_lt (pe_op op_mulX (pe_op op_sub (pv 4) pe_int) (pv 9)) (pe_op op_mulX (pe_op op_mulX (pe_un un_neg (pv 4)) (pv 5)) (pv 7)) (nomark _)) (pss_one (ps_ret pe_bl)) pss_nil) (pss_one (ps_ret (pe_cmpR op_le (pe_op op_mulX (pe_op op_mulX (pe_op op_sub (pv 4) pe_int) (pe_op op_sub (pv 4) pe_int)) (pv 8)) (pe_op op_mulX (pe_op op_mulX (pv 4) (pv 5)) (pe_op op_addU (pe_op op_mulX (pe_op op_sub (pv 4) pe_int) (pv 7)) (pe_op op_mulX (pe_op op_mulX (pv 4) (pv 5)) (pv 10)))) (nomark _))))))), fun c hps hrk hmg => ?_⟩)
  show DC K c [] [.sh, .sh, .sh, .sh, .sh, .sh, .sh, .sh, .sh, .sh, .sh] _ b_is_root_met _
  exact (c_cons (c_asg (d_var 0) (g_tup (gs_cons (g_name 4) (gs_cons (g_name 5) gs_nil)))) (c_cons (c_asg (DO.sh (o_call (da_cons (d_var 0) (da_cons (d_var 1) (da_cons (d_var 2) (da_cons (d_var 3) da_nil)))))) (g_tup (gs_cons (g_name 6) (gs_cons (g_name 7) (gs_cons (g_name 8) (gs_cons (g_name 9) (gs_cons (g_name 10) gs_nil))))))) (c_cons (c_if (d_test (d_op g_lt (DE.b (d_op g_mul (DE.b (d_op g_sub (DE.b (d_var 4)) (DE.b d_int))) (DE.b (d_var 9)))) (DE.b (d_op g_mul (DE.b (d_op g_mul (DE.b (d_un g_neg (DE.b (d_var 4)))) (DE.b (d_var 5)))) (DE.b (d_var 7)))))) (c_ret d_bl hrk) c_nil) (c_ret (d_op g_le (DE.b (d_op g_mul (DE.b (d_op g_mul (DE.b (d_op g_sub (DE.b (d_var 4)) (DE.b d_int))) (DE.b (d_op g_sub (DE.b (d_var 4)) (DE.b d_int))))) (DE.b (d_var 8)))) (DE.b (d_op g_mul (DE.b (d_op g_mul (DE.b (d_var 4)) (DE.b (d_var 5)))) (DE.b (d_op g_add (DE.b (d_op g_mul (DE.b (d_op g_sub (DE.b (d_var 4)) (DE.b d_int))) (DE.b (d_var 7)))) (DE.b (d_op g_mul (DE.b (d_op g_mul (DE.b (d_var 4)) (DE.b (d_var 5)))) (DE.b (d_var 10))))))))) hrk))))
theorem sc_upper_holds : FnScope ["kind", "tied", "sides", "less", "c", "base", "most", "left", "right", "low", "high", "z"] ["kind", "tied", "sides"] (defScope s_upper_holds) := ⟨rfl, rfl, rfl, by decide +kernel, rfl, by decide +kernel, by decide +kernel⟩
theorem ok_upper_holds {f : Addr} {fd : FuncData}  (F : FnP K "upper_holds" s_upper_holds f fd) (hB : ∀ x ∈ bts, mg x = none)      : FnOk P w K mg base CX0 1 f fd ["kind", "tied", "sides"] (spD K mg F_upper_holds [.sh, .sh, .sh] .sh) := by
  show FnOk P w K mg base CX0 (0 + 1) f fd ["kind", "tied", "sides"] (spD K mg (fnD 12 3 .sh b_upper_holds) [.sh, .sh, .sh] .sh)
  refine fn_ok (k := 0) (ps := [.sh, .sh, .sh]) (rk := .sh) (b := b_upper_holds) (O1 := []) (N := ["kind", "tied", "sides", "less", "c", "base", "most", "left", "right", "low", "high", "z"]) F sc_upper_holds rfl (of_decide_eq_true rfl) (fun cdv A outer s H E hr => ⟨_, (pss_cons (ps_asg (pv 0) (pg_tup rfl (pgs_cons (pg_name (i := 5) sc_upper_holds.nd rfl (by first | exact Or.inl rfl | exact Or.inr rfl)) (pgs_cons (pg_name (i := 6) sc_upper_holds.nd rfl (by first | exact Or.inl rfl | exact Or.inr rfl)) pgs_nil)))) (pss_cons (ps_asg (pv 2) (pg_tup rfl (pgs_cons (pg_name (i := 7) sc_upper_holds.nd rfl (by first | exact Or.inl rfl | exact Or.inr rfl)) (pgs_cons (pg_name (i := 8) sc_upper_holds.nd rfl (by first | exact Or.inl rfl | exact Or.inr rfl)) (pgs_cons (pg_name (i := 9) sc_upper_holds.nd rfl (by first | exact Or.inl rfl | exact Or.inr rfl)) (pgs_cons (pg_name (i := 10) sc_upper_holds.nd rfl (by first | exact Or.inl rfl | exact Or.inr rfl)) (pgs_cons (pg_name (i := 11) sc_upper_holds.nd rfl (by first | exact Or.inl rfl | exact Or.inr rfl)) pgs_nil))))))) (pss_cons (ps_set (i := 3) sc_upper_holds.nd rfl (by first | exact Or.inl rfl | exact Or.inr rfl) (pe_op op_sub (pv 5) pe_int)) (pss_cons (ps_set (i := 4) sc_upper_holds.nd rfl (by first | exact Or.inl rfl | exact Or.inr rfl) (pe_op op_mulX (pv 5) (pv 6))) (pss_cons (ps_if (PW.pt (pw_and (pt_cmpR op_le (pe_op op_mulX (pv 3) (pv 10)) (pe_op op_mulX (pv 1) (pv 8)) (nomark _)) (pw_and1 (pt_cmpR op_le (pv 1) pe_int (nomark _))))) (pss_one (ps_ret pe_bl)) pss_nil) (pss_cons (ps_if (pt_cmpR op_le (pv 1) pe_int (nomark _)) (pss_one (ps_ret (pe_cmpR op_le (pe_op op_addU (pe_op op_mulX (pe_op op_mulX (pv 4) (pv 3)) (pv 8)) (pe_op op_mulX (pe_op op_mulX (pv 4) (pv 4)) (pv 11))) (pe_op op_mulX (pe_op op_mulX (pv 1) (pv 3)) (pv 8)) (nomark _)))) pss_nil) (pss_cons (ps_if (pt_cmpR op_ge (pe_op op_addU (pe_op op_mulX (pe_op op_mulX (pv 4) (pv 3)) (pv 7)) (pe_op op_mulX (pe_op op_mulX (pv 4) (pv 4)) (pv 11))) (pe_op op_mulX (pe_op op_mulX (pv 3) (pv 3)) (pv 10)) (nomark _)) (pss_one (ps_ret (pe_cmpR op_le (pe_op op_mulX (pv 3) (pv 10)) (pe_op op_mulX (pv 1) (pv 7)) (nomark _)))) pss_nil) (pss_cons (ps_if (pt_cmpR op_le (pe_op op_addU (pe_op op_mulX (pe_op op_mulX (pv 4) (pv 3)) (pv 8)) (pe_op op_mulX (pe_op op_mulX (pv 4) (pv 4)) (pv 11))) (pe_op op_mulX (pe_op op_mulX (pv 3) (pv 3)) (pv 10)) (nomark _)) (pss_one (ps_ret (pe_cmpR op_le (pe_op op_addU (pe_op op_mulX (pe_op op_mulX (pv 4) (pv 3)) (pv 8)) (pe_op op_mulX (pe_op op_mulX (pv 4) (pv 4)) (pv 11))) (pe_op op_mulX (pe_op op_mulX (pv 1) (pv 3)) (pv 8)) (nomark _)))) pss_nil) (pss_one (ps_ret (pe_cmpR op_le (pe_op op_mulX (pe_op op_mulX (pe_op op_mulX (pv 3) (pv 3)) (pv 10)) (pv 4)) (pe_op op_mulX (pv 1) (pe_op op_sub (pe_op op_mulX (pe_op op_mulX (pv 3) (pv 3)) (pv 10)) (pe_op op_mulX (pe_op op_mulX (pv 4) (pv 4)) (pv 11)))) (nomark _)))))))))))), fun c hps hrk hmg => ?_⟩)
  show DC K c [] [.sh, .sh, .sh, .sh, .sh, .sh, .sh, .sh, .sh, .sh, .sh, .sh] _ b_upper_holds _
  exact (c_cons (c_asg (d_var 0) (g_tup (gs_cons (g_name 5) (gs_cons (g_name 6) gs_nil)))) (c_cons (c_asg (d_var 2) (g_tup (gs_cons (g_name 7) (gs_cons (g_name 8) (gs_cons (g_name 9) (gs_cons (g_name 10) (gs_cons (g_name 11) gs_nil))))))) (c_cons (c_set 3 (d_op g_sub (DE.b (d_var 5)) (DE.b d_int))) (c_cons (c_set 4 (d_op g_mul (DE.b (d_var 5)) (DE.b (d_var 6)))) (c_cons (c_if (d_and (d_test (d_op g_le (DE.b (d_op g_mul (DE.b (d_var 3)) (DE.b (d_var 10)))) (DE.b (d_op g_mul (DE.b (d_var 1)) (DE.b (d_var 8)))))) (d_test (d_op g_le (DE.b (d_var 1)) (DE.b d_int)))) (c_ret d_bl hrk) c_nil) (c_cons (c_if (d_test (d_op g_le (DE.b (d_var 1)) (DE.b d_int))) (c_ret (d_op g_le (DE.b (d_op g_add (DE.b (d_op g_mul (DE.b (d_op g_mul (DE.b (d_var 4)) (DE.b (d_var 3)))) (DE.b (d_var 8)))) (DE.b (d_op g_mul (DE.b (d_op g_mul (DE.b (d_var 4)) (DE.b (d_var 4)))) (DE.b (d_var 11)))))) (DE.b (d_op g_mul (DE.b (d_op g_mul (DE.b (d_var 1)) (DE.b (d_var 3)))) (DE.b (d_var 8))))) hrk) c_nil) (c_cons (c_if (d_test (d_op g_ge (DE.b (d_op g_add (DE.b (d_op g_mul (DE.b (d_op g_mul (DE.b (d_var 4)) (DE.b (d_var 3)))) (DE.b (d_var 7)))) (DE.b (d_op g_mul (DE.b (d_op g_mul (DE.b (d_var 4)) (DE.b (d_var 4)))) (DE.b (d_var 11)))))) (DE.b (d_op g_mul (DE.b (d_op g_mul (DE.b (d_var 3)) (DE.b (d_var 3)))) (DE.b (d_var 10)))))) (c_ret (d_op g_le (DE.b (d_op g_mul (DE.b (d_var 3)) (DE.b (d_var 10)))) (DE.b (d_op g_mul (DE.b (d_var 1)) (DE.b (d_var 7))))) hrk) c_nil) (c_cons (c_if (d_test (d_op g_le (DE.b (d_op g_add (DE.b (d_op g_mul (DE.b (d_op g_mul (DE.b (d_var 4)) (DE.b (d_var 3)))) (DE.b (d_var 8)))) (DE.b (d_op g_mul (DE.b (d_op g_mul (DE.b (d_var 4)) (DE.b (d_var 4)))) (DE.b (d_var 11)))))) (DE.b (d_op g_mul (DE.b (d_op g_mul (DE.b (d_var 3)) (DE.b (d_var 3)))) (DE.b (d_var 10)))))) (c_ret (d_op g_le (DE.b (d_op g_add (DE.b (d_op g_mul (DE.b (d_op g_mul (DE.b (d_var 4)) (DE.b (d_var 3)))) (DE.b (d_var 8)))) (DE.b (d_op g_mul (DE.b (d_op g_mul (DE.b (d_var 4)) (DE.b (d_var 4)))) (DE.b (d_var 11)))))) (DE.b (d_op g_mul (DE.b (d_op g_mul (DE.b (d_var 1)) (DE.b (d_var 3)))) (DE.b (d_var 8))))) hrk) c_nil) (c_ret (d_op g_le (DE.b (d_op g_mul (DE.b (d_op g_mul (DE.b (d_op g_mul (DE.b (d_var 3)) (DE.b (d_var 3)))) (DE.b (d_var 10)))) (DE.b (d_var 4)))) (DE.b (d_op g_mul (DE.b (d_var 1)) (DE.b (d_op g_sub (DE.b (d_op g_mul (DE.b (d_op g_mul (DE.b (d_var 3)) (DE.b (d_var 3)))) (DE.b (d_var 10)))) (DE.b (d_op g_mul (DE.b (d_op g_mul (DE.b (d_var 4)) (DE.b (d_var 4)))) (DE.b (d_var 11))))))))) hrk)))))))))
theorem sc_lower_holds : FnScope ["kind", "tied", "sides", "less", "c", "base", "most", "left", "right", "low", "high", "z"] ["kind", "tied", "sides"] (defScope s_lower_holds) := ⟨rfl, rfl, rfl, by decide +kernel, rfl, by decide +kernel, by decide +kernel⟩
theorem ok_lower_holds {f : Addr} {fd : FuncData}  (F : FnP K "lower_holds" s_lower_holds f fd) (hB : ∀ x ∈ bts, mg x = none)      : FnOk P w K mg base CX0 1 f fd ["kind", "tied", "sides"] (spD K mg F_lower_holds [.sh, .sh, .sh] .sh) := by
  show FnOk P w K mg base CX0 (0 + 1) f fd ["kind", "tied", "sides"] (spD K mg (fnD 12 3 .sh b_lower_holds) [.sh, .sh, .sh] .sh)
  refine fn_ok (k := 0) (ps := [.sh, .sh, .sh]) (rk := .sh) (b := b_lower_holds) (O1 := []) (N := ["kind", "tied", "sides", "less", "c", "base", "most", "left", "right", "low", "high", "z"]) F sc_lower_holds rfl (of_decide_eq_true rfl) (fun cdv A outer s H E hr => ⟨_, (pss_cons (ps_asg (pv 0) (pg_tup rfl (pgs_cons (pg_name (i := 5) sc_lower_holds.nd rfl (by first | exact Or.inl rfl | exact Or.inr rfl)) (pgs_cons (pg_name (i := 6) sc_lower_holds.nd rfl (by first | exact Or.inl rfl | exact Or.inr rfl)) pgs_nil)))) (pss_cons (ps_asg (pv 2) (pg_tup rfl (pgs_cons (pg_name (i := 7) sc_lower_holds.nd rfl (by first | exact Or.inl rfl | exact Or.inr rfl)) (pgs_cons (pg_name (i := 8) sc_lower_holds.nd rfl (by first | exact Or.inl rfl | exact Or.inr rfl)) (pgs_cons (pg_name (i := 9) sc_lower_holds.nd rfl (by first | exact Or.inl rfl | exact Or.inr rfl)) (pgs_cons (pg_name (i := 10) sc_lower_holds.nd rfl (by first | exact Or.inl rfl | exact Or.inr rfl)) (pgs_cons (pg_name (i := 11) sc_lower_holds.nd rfl (by first | exact Or.inl rfl | exact Or.inr rfl)) pgs_nil))))))) (pss_cons (ps_set (i := 3) sc_lower_holds.nd rfl (by first | exact Or.inl rfl | exact Or.inr rfl) (pe_op op_sub (pv 5) pe_int)) (pss_cons (ps_set (i := 4) sc_lower_holds.nd rfl (by first | exact Or.inl rfl | exact Or.inr rfl) (pe_op op_mulX (pv 5) (pv 6))) (pss_cons (ps_if (pt_cmpR op_ge (pv 1) pe_int (nomark _)) (pss_one (ps_ret (pe_cmpR op_ge (pe_op op_mulX (pe_op op_mulX (pv 3) (pv 3)) (pv 9)) (pe_op op_addU (pe_op op_mulX (pe_op op_mulX (pv 3) (pv 1)) (pv 8)) (pe_op op_mulX (pe_op op_mulX (pv 1) (pv 1)) (pv 11))) (nomark _)))) pss_nil) (pss_cons (ps_if (pt_cmpR op_ge (pe_op op_mulX (pv 3) (pv 9)) (pe_op op_mulX (pe_un un_neg (pv 4)) (pv 7)) (nomark _)) (pss_one (ps_ret (pe_cmpR op_ge (pe_op op_mulX (pe_op op_mulX (pv 3) (pv 3)) (pv 9)) (pe_op op_addU (pe_op op_mulX (pe_op op_mulX (pv 3) (pv 1)) (pv 7)) (pe_op op_mulX (pe_op op_mulX (pv 1) (pv 1)) (pv 11))) (nomark _)))) pss_nil) (pss_cons (ps_if (pt_cmpR op_le (pe_op op_mulX (pv 3) (pv 9)) (pe_op op_mulX (pe_un un_neg (pv 4)) (pv 8)) (nomark _)) (pss_one (ps_ret (pe_cmpR op_ge (pe_op op_mulX (pe_op op_mulX (pe_un un_neg (pv 4)) (pv 3)) (pv 8)) (pe_op op_addU (pe_op op_mulX (pe_op op_mulX (pv 3) (pv 1)) (pv 8)) (pe_op op_mulX (pe_op op_mulX (pv 1) (pv 1)) (pv 11))) (nomark _)))) pss_nil) (pss_one (ps_ret (pe_cmpR op_ge (pe_op op_mulX (pe_op op_mulX (pe_op op_mulX (pv 3) (pv 3)) (pv 9)) (pv 4)) (pe_op op_addU (pe_op op_mulX (pe_op op_mulX (pe_op op_mulX (pe_un un_neg (pv 3)) (pv 3)) (pv 1)) (pv 9)) (pe_op op_mulX (pe_op op_mulX (pe_op op_mulX (pv 1) (pv 1)) (pv 11)) (pv 4))) (nomark _))))))))))), fun c hps hrk hmg => ?_⟩)
  show DC K c [] [.sh, .sh, .sh, .sh, .sh, .sh, .sh, .sh, .sh, .sh, .sh, .sh] _ b_lower_holds _
  exact (c_cons (c_asg (d_var 0) (g_tup (gs_cons (g_name 5) (gs_cons (g_name 6) gs_nil)))) (c_cons (c_asg (d_var 2) (g_tup (gs_cons (g_name 7) (gs_cons (g_name 8) (gs_cons (g_name 9) (gs_cons (g_name 10) (gs_cons (g_name 11) gs_nil))))))) (c_cons (c_set 3 (d_op g_sub (DE.b (d_var 5)) (DE.b d_int))) (c_cons (c_set 4 (d_op g_mul (DE.b (d_var 5)) (DE.b (d_var 6)))) (c_cons (c_if (d_test (d_op g_ge (DE.b (d_var 1)) (DE.b d_int))) (c_ret (d_op g_ge (DE.b (d_op g_mul (DE.b (d_op g_mul (DE.b (d_var 3)) (DE.b (d_var 3)))) (DE.b (d_var 9)))) (DE.b (d_op g_add (DE.b (d_op g_mul (DE.b (d_op g_mul (DE.b (d_var 3)) (DE.b (d_var 1)))) (DE.b (d_var 8)))) (DE.b (d_op g_mul (DE.b (d_op g_mul (DE.b (d_var 1)) (DE.b (d_var 1)))) (DE.b (d_var 11))))))) hrk) c_nil) (c_cons (c_if (d_test (d_op g_ge (DE.b (d_op g_mul (DE.b (d_var 3)) (DE.b (d_var 9)))) (DE.b (d_op g_mul (DE.b (d_un g_neg (DE.b (d_var 4)))) (DE.b (d_var 7)))))) (c_ret (d_op g_ge (DE.b (d_op g_mul (DE.b (d_op g_mul (DE.b (d_var 3)) (DE.b (d_var 3)))) (DE.b (d_var 9)))) (DE.b (d_op g_add (DE.b (d_op g_mul (DE.b (d_op g_mul (DE.b (d_var 3)) (DE.b (d_var 1)))) (DE.b (d_var 7)))) (DE.b (d_op g_mul (DE.b (d_op g_mul (DE.b (d_var 1)) (DE.b (d_var 1)))) (DE.b (d_var 11))))))) hrk) c_nil) (c_cons (c_if (d_test (d_op g_le (DE.b (d_op g_mul (DE.b (d_var 3)) (DE.b (d_var 9)))) (DE.b (d_op g_mul (DE.b (d_un g_neg (DE.b (d_var 4)))) (DE.b (d_var 8)))))) (c_ret (d_op g_ge (DE.b (d_op g_mul (DE.b (d_op g_mul (DE.b (d_un g_neg (DE.b (d_var 4)))) (DE.b (d_var 3)))) (DE.b (d_var 8)))) (DE.b (d_op g_add (DE.b (d_op g_mul (DE.b (d_op g_mul (DE.b (d_var 3)) (DE.b (d_var 1)))) (DE.b (d_var 8)))) (DE.b (d_op g_mul (DE.b (d_op g_mul (DE.b (d_var 1)) (DE.b (d_var 1)))) (DE.b (d_var 11))))))) hrk) c_nil) (c_ret (d_op g_ge (DE.b (d_op g_mul (DE.b (d_op g_mul (DE.b (d_op g_mul (DE.b (d_var 3)) (DE.b (d_var 3)))) (DE.b (d_var 9)))) (DE.b (d_var 4)))) (DE.b (d_op g_add (DE.b (d_op g_mul (DE.b (d_op g_mul (DE.b (d_op g_mul (DE.b (d_un g_neg (DE.b (d_var 3)))) (DE.b (d_var 3)))) (DE.b (d_var 1)))) (DE.b (d_var 9)))) (DE.b (d_op g_mul (DE.b (d_op g_mul (DE.b (d_op g_mul (DE.b (d_var 1)) (DE.b (d_var 1)))) (DE.b (d_var 11)))) (DE.b (d_var 4))))))) hrk))))))))
theorem sc_root_good : FnScope ["kind", "looks", "fresh", "cell", "figures", "sides", "found", "figure", "base", "most", "upper", "lower"] ["kind", "looks", "fresh", "cell"] (defScope s_root_good) := ⟨rfl, rfl, rfl, by decide +kernel, rfl, by decide +kernel, by decide +kernel⟩
theorem ok_root_good {f : Addr} {fd : FuncData}  (F : FnP K "root_good" s_root_good f fd) (hB : ∀ x ∈ bts, mg x = none)     (h_is_root_met : Fk P w K mg base "is_root_met" 2 ["kind", "looks", "fresh", "cell"] (spD K mg F_is_root_met [.sh, .sh, .sh, .sh] .sh)) (h_root_edges : Fk P w K mg base "root_edges" 1 ["kind", "looks", "fresh", "cell"] (spD K mg F_root_edges [.sh, .sh, .sh, .sh] .sh)) (h_upper_holds : Fk P w K mg base "upper_holds" 1 ["kind", "tied", "sides"] (spD K mg F_upper_holds [.sh, .sh, .sh] .sh)) (h_lower_holds : Fk P w K mg base "lower_holds" 1 ["kind", "tied", "sides"] (spD K mg F_lower_holds [.sh, .sh, .sh] .sh)) : FnOk P w K mg base CX0 3 f fd ["kind", "looks", "fresh", "cell"] (spD K mg F_root_good [.sh, .sh, .sh, .sh] (.ls .sh)) := by
  obtain ⟨_, _, G_is_root_met, mg_is_root_met, kp_is_root_met, bi_is_root_met⟩ := h_is_root_met
  obtain ⟨_, _, G_root_edges, mg_root_edges, kp_root_edges, bi_root_edges⟩ := h_root_edges
  obtain ⟨_, _, G_upper_holds, mg_upper_holds, kp_upper_holds, bi_upper_holds⟩ := h_upper_holds
  obtain ⟨_, _, G_lower_holds, mg_lower_holds, kp_lower_holds, bi_lower_holds⟩ := h_lower_holds
  show FnOk P w K mg base CX0 (2 + 1) f fd ["kind", "looks", "fresh", "cell"] (spD K mg (fnD 12 4 (.ls .sh) b_root_good) [.sh, .sh, .sh, .sh] (.ls .sh))
  refine fn_ok (k := 2) (ps := [.sh, .sh, .sh, .sh]) (rk := (.ls .sh)) (b := b_root_good) (O1 := []) (N := ["kind", "looks", "fresh", "cell", "figures", "sides", "found", "figure", "base", "most", "upper", "lower"]) F sc_root_good rfl (of_decide_eq_true rfl) (fun cdv A outer s H E hr => ⟨_, (pss_cons (ps_asg (pv 0) (pg_tup rfl (pgs_cons (pg_name (i := 8) sc_root_good.nd rfl (by first | exact Or.inl rfl | exact Or.inr rfl)) (pgs_cons (pg_name (i := 9) sc_root_good.nd rfl (by first | exact Or.inl rfl | exact Or.inr rfl)) pgs_nil)))) (pss_cons (ps_set (i := 4) sc_root_good.nd rfl (by first | exact Or.inl rfl | exact Or.inr rfl) (pe_listRg rfl rfl (hB "list" (by decide +kernel)) (prg_2 rfl (hB "range" (by decide +kernel)) (pe_un un_neg (pv 9)) (pe_op op_addU (pv 9) pe_int)))) (pss_cons (ps_if (pt_not (pt_val (pe_call G_is_root_met (hr.mono (by decide)) rfl mg_is_root_met kp_is_root_met bi_is_root_met .nil pass0 (pa_cons (pv 0) (pa_cons (pv 1) (pa_cons (pv 2) (pa_cons (pv 3) pa_nil))))))) (pss_one (ps_ret (pv 4))) pss_nil) (pss_cons (ps_set (i := 5) sc_root_good.nd rfl (by first | exact Or.inl rfl | exact Or.inr rfl) (pe_call G_root_edges (hr.mono (by decide)) rfl mg_root_edges kp_root_edges bi_root_edges .nil pass0 (pa_cons (pv 0) (pa_cons (pv 1) (pa_cons (pv 2) (pa_cons (pv 3) pa_nil)))))) (pss_cons (ps_set (i := 6) sc_root_good.nd rfl (by first | exact Or.inl rfl | exact Or.inr rfl) (pe_lst pa_nil)) (pss_cons (ps_for PassesOwn.never rfl (pi_seq (pv 4)) (pg_name (i := 7) sc_root_good.nd rfl (by first | exact Or.inl rfl | exact Or.inr rfl)) (pss_cons (ps_set (i := 10) sc_root_good.nd rfl (by first | exact Or.inl rfl | exact Or.inr rfl) (pe_or (pe_cmpR (op_eqD hr.units) (pv 7) (pv 9) (nomark _)) (pe_one (pe_call G_upper_holds (hr.mono (by decide)) rfl mg_upper_holds kp_upper_holds bi_upper_holds .nil pass0 (pa_cons (pv 0) (pa_cons (pe_op op_addU (pe_op op_mulX (pv 7) (pe_op op_sub (pv 8) pe_int)) (pv 9)) (pa_cons (pv 5) pa_nil))))))) (pss_cons (ps_set (i := 11) sc_root_good.nd rfl (by first | exact Or.inl rfl | exact Or.inr rfl) (pe_or (pe_cmpR (op_eqD hr.units) (pv 7) (pe_un un_neg (pv 9)) (nomark _)) (pe_one (pe_call G_lower_holds (hr.mono (by decide)) rfl mg_lower_holds kp_lower_holds bi_lower_holds .nil pass0 (pa_cons (pv 0) (pa_cons (pe_op op_sub (pe_op op_mulX (pv 7) (pe_op op_sub (pv 8) pe_int)) (pv 9)) (pa_cons (pv 5) pa_nil))))))) (pss_one (ps_if (PW.pt (pw_and (pt_val (pv 10)) (pw_and1 (pt_val (pv 11))))) (pss_one (ps_expr (pe_bm PySem.F.plainAttrs_list PySem.F.slot_list_append PySem.F.type_list_append mt_append (pv 6) (pa_cons (pv 7) pa_nil)))) pss_nil))))) (pss_one (ps_ret (pv 6))))))))), fun c hps hrk hmg => ?_⟩)
  show DC K c [] [.sh, .sh, .sh, .sh, .sh, .sh, .sh, .sh, .sh, .sh, .sh, .sh] _ b_root_good _
  exact (c_cons (c_asg (d_var 0) (g_tup (gs_cons (g_name 8) (gs_cons (g_name 9) gs_nil)))) (c_cons (c_setO 4 (o_lstRg (rg_2 (d_un g_neg (DE.b (d_var 9))) (d_op g_add (DE.b (d_var 9)) (DE.b d_int))))) (c_cons (c_if (d_not (d_tB (DO.sh (o_call (da_cons (d_var 0) (da_cons (d_var 1) (da_cons (d_var 2) (da_cons (d_var 3) da_nil)))))))) (c_retV 4 hrk (by rw [hps]; rfl)) c_nil) (c_cons (c_set 5 (DO.sh (o_call (da_cons (d_var 0) (da_cons (d_var 1) (da_cons (d_var 2) (da_cons (d_var 3) da_nil))))))) (c_cons (c_setO 6 (o_lst da_nil)) (c_frz 4 rfl (c_cons (c_for (i_seq (d_var 4)) (g_name 7) (c_cons (c_set 10 (d_orV (d_op g_eq (DE.b (d_var 7)) (DE.b (d_var 9))) (DO.sh (o_call (da_cons (d_var 0) (da_cons (d_op g_add (DE.b (d_op g_mul (DE.b (d_var 7)) (DE.b (d_op g_sub (DE.b (d_var 8)) (DE.b d_int))))) (DE.b (d_var 9))) (da_cons (d_var 5) da_nil))))))) (c_cons (c_set 11 (d_orV (d_op g_eq (DE.b (d_var 7)) (DE.b (d_un g_neg (DE.b (d_var 9))))) (DO.sh (o_call (da_cons (d_var 0) (da_cons (d_op g_sub (DE.b (d_op g_mul (DE.b (d_var 7)) (DE.b (d_op g_sub (DE.b (d_var 8)) (DE.b d_int))))) (DE.b (d_var 9))) (da_cons (d_var 5) da_nil))))))) (c_if (d_and (d_tB (d_var 10)) (d_tB (d_var 11))) (c_app 6 (d_var 7)) c_nil)))) (c_retV 6 hrk (by rw [hps]; rfl)))))))))
theorem sc_law : FnScope ["script", "deck", "kind", "looks", "fresh", "half", "cell", "top", "edge", "look", "place", "due", "turn", "found"] ["script"] (defScope s_law) := ⟨rfl, rfl, rfl, by decide +kernel, rfl, by decide +kernel, by decide +kernel⟩
theorem ok_law {f : Addr} {fd : FuncData}  (F : FnP K "law" s_law f fd) (hB : ∀ x ∈ bts, mg x = none)     (h_law_deck : Fk P w K mg base "_law_deck" 1 ["cell", "turn"] (spD K mg F_law_deck [.sh, .sh] (.ls .sh))) (h_law_kind : Fk P w K mg base "_law_kind" 2 ["deck"] (spD K mg F_law_kind [(.pm (.ls .sh))] .sh)) (h_law_pick : Fk P w K mg base "_law_pick" 1 ["deck", "many"] (spD K mg F_law_pick [(.pm (.ls .sh)), .sh] .sh)) (h_law_half : Fk P w K mg base "_law_half" 1 ["kind", "looks"] (spD K mg F_law_half [.sh, .sh] .sh)) (h_law_root_good : Fk P w K mg base "_law_root_good" 3 ["kind", "looks", "fresh", "cell"] (spD K mg F_law_root_good [.sh, .sh, .sh, .sh] .sh)) (h_root_good : Fk P w K mg base "root_good" 3 ["kind", "looks", "fresh", "cell"] (spD K mg F_root_good [.sh, .sh, .sh, .sh] (.ls .sh))) : FnOk P w K mg base CX0 4 f fd ["script"] (spD K mg F_law [.sh] .sh) := by
  obtain ⟨_, _, G_law_deck, mg_law_deck, kp_law_deck, bi_law_deck⟩ := h_law_deck
  obtain ⟨_, _, G_law_kind, mg_law_kind, kp_law_kind, bi_law_kind⟩ := h_law_kind
  obtain ⟨_, _, G_law_pick, mg_law_pick, kp_law_pick, bi_law_pick⟩ := h_law_pick
  obtain ⟨_, _, G_law_half, mg_law_half, kp_law_half, bi_law_half⟩ := h_law_half
  obtain ⟨_, _, G_law_root_good, mg_law_root_good, kp_law_root_good, bi_law_root_good⟩ := h_law_root_good
  obtain ⟨_, _, G_root_good, mg_root_good, kp_root_good, bi_root_good⟩ := h_root_good
  show FnOk P w K mg base CX0 (3 + 1) f fd ["script"] (spD K mg (fnD 14 1 .sh b_law) [.sh] .sh)
  refine fn_ok (k := 3) (ps := [.sh]) (rk := .sh) (b := b_law) (O1 := []) (N := ["script", "deck", "kind", "looks", "fresh", "half", "cell", "top", "edge", "look", "place", "due", "turn", "found"]) F sc_law rfl (of_decide_eq_true rfl) (fun cdv A outer s H E hr => ⟨_, (pss_cons (ps_set (i := 1) sc_law.nd rfl (by first | exact Or.inl rfl | exact Or.inr rfl) (pe_call G_law_deck (hr.mono (by decide)) rfl mg_law_deck kp_law_deck bi_law_deck .nil pass0 (pa_cons (pe_ix ix_seq (pe_op op_addU (pv 0) (pe_lst (pa_cons pe_int pa_nil))) pe_int (fun _ _ => rfl)) (pa_cons pe_int pa_nil)))) (pss_cons (ps_set (i := 2) sc_law.nd rfl (by first | exact Or.inl rfl | exact Or.inr rfl) (pe_call G_law_kind (hr.mono (by decide)) rfl mg_law_kind kp_law_kind bi_law_kind .nil pass0 (pa_cons (pv 1) pa_nil))) (pss_cons (ps_set (i := 3) sc_law.nd rfl (by first | exact Or.inl rfl | exact Or.inr rfl) (pe_tup (pa_cons (pe_op op_addU pe_int (pe_call G_law_pick (hr.mono (by decide)) rfl mg_law_pick kp_law_pick bi_law_pick .nil pass0 (pa_cons (pv 1) (pa_cons pe_int pa_nil)))) (pa_cons (pe_call G_law_pick (hr.mono (by decide)) rfl mg_law_pick kp_law_pick bi_law_pick .nil pass0 (pa_cons (pv 1) (pa_cons pe_int pa_nil))) pa_nil)))) (pss_cons (ps_set (i := 4) sc_law.nd rfl (by first | exact Or.inl rfl | exact Or.inr rfl) (pe_callB (call_maxT rfl) rfl (hB "max" (by decide +kernel)) bt_max (pa_cons pe_int (pa_cons (pe_op op_sub (pe_op op_addU (pe_op op_sub (pe_bits (pe_ix ix_seq (pv 2) pe_int (fun _ _ => rfl))) pe_int) (pe_ix ix_seq (pv 3) pe_int (fun _ _ => rfl))) pe_int) pa_nil)))) (pss_cons (ps_set (i := 4) sc_law.nd rfl (by first | exact Or.inl rfl | exact Or.inr rfl) (pe_op op_addU (pv 4) (pe_ix ix_seq (pe_lst (pa_cons (pe_call G_law_pick (hr.mono (by decide)) rfl mg_law_pick kp_law_pick bi_law_pick .nil pass0 (pa_cons (pv 1) (pa_cons pe_int pa_nil))) (pa_cons (pe_call G_law_pick (hr.mono (by decide)) rfl mg_law_pick kp_law_pick bi_law_pick .nil pass0 (pa_cons (pv 1) (pa_cons pe_int pa_nil))) pa_nil))) (pe_call G_law_pick (hr.mono (by decide)) rfl mg_law_pick kp_law_pick bi_law_pick .nil pass0 (pa_cons (pv 1) (pa_cons pe_int pa_nil))) (fun _ _ => rfl)))) (pss_cons (ps_set (i := 5) sc_law.nd rfl (by first | exact Or.inl rfl | exact Or.inr rfl) (pe_call G_law_half (hr.mono (by decide)) rfl mg_law_half kp_law_half bi_law_half .nil pass0 (pa_cons (pv 2) (pa_cons (pv 3) pa_nil)))) (pss_cons (ps_for PassesOwn.never rfl (pi_seq (pe_op op_addU (pe_slice sl_U (pv 0) (po_some pe_int) (po_some pe_int)) (pe_lst (pa_cons pe_int pa_nil)))) (pg_name (i := 6) sc_law.nd rfl (by first | exact Or.inl rfl | exact Or.inr rfl)) (pss_cons (ps_set (i := 1) sc_law.nd rfl (by first | exact Or.inl rfl | exact Or.inr rfl) (pe_call G_law_deck (hr.mono (by decide)) rfl mg_law_deck kp_law_deck bi_law_deck .nil pass0 (pa_cons (pv 6) (pa_cons pe_int pa_nil)))) (pss_cons (ps_set (i := 7) sc_law.nd rfl (by first | exact Or.inl rfl | exact Or.inr rfl) (pe_op op_addU (pe_op op_shlW pe_int (pe_op op_sub (pe_ix ix_seq (pv 3) pe_int (fun _ _ => rfl)) pe_int)) (pe_call G_law_pick (hr.mono (by decide)) rfl mg_law_pick kp_law_pick bi_law_pick .nil pass0 (pa_cons (pv 1) (pa_cons (pe_op op_shlW pe_int (pe_op op_sub (pe_ix ix_seq (pv 3) pe_int (fun _ _ => rfl)) pe_int)) pa_nil))))) (pss_cons (ps_set (i := 8) sc_law.nd rfl (by first | exact Or.inl rfl | exact Or.inr rfl) (pe_op op_mulX (pe_op op_mulX (pe_op op_mulX (pe_ix ix_seq (pv 2) pe_int (fun _ _ => rfl)) (pe_ix ix_seq (pv 2) pe_int (fun _ _ => rfl))) (pe_op op_addU (pv 7) pe_int)) (pe_op op_shlW pe_int (pe_ix ix_seq (pv 3) pe_int (fun _ _ => rfl))))) (pss_cons (ps_set (i := 8) sc_law.nd rfl (by first | exact Or.inl rfl | exact Or.inr rfl) (pe_op op_fdivW (pv 8) (pe_op op_mulX (pe_op op_sub (pe_ix ix_seq (pv 2) pe_int (fun _ _ => rfl)) pe_int) (pe_op op_shlW pe_int (pe_ix ix_seq (pv 3) pe_int (fun _ _ => rfl)))))) (pss_cons (ps_set (i := 9) sc_law.nd rfl (by first | exact Or.inl rfl | exact Or.inr rfl) (pe_lst (pa_cons (pe_op op_sub (pe_call G_law_pick (hr.mono (by decide)) rfl mg_law_pick kp_law_pick bi_law_pick .nil pass0 (pa_cons (pv 1) (pa_cons (pe_op op_mulX pe_int (pv 5)) pa_nil))) (pv 5)) (pa_cons (pe_op op_sub (pe_op op_addU (pv 8) (pe_call G_law_pick (hr.mono (by decide)) rfl mg_law_pick kp_law_pick bi_law_pick .nil pass0 (pa_cons (pv 1) (pa_cons pe_int pa_nil)))) pe_int) pa_nil)))) (pss_cons (ps_set (i := 9) sc_law.nd rfl (by first | exact Or.inl rfl | exact Or.inr rfl) (pe_op op_addU (pv 9) (pe_lst (pa_cons (pe_op op_sub (pe_op op_sub pe_int (pv 8)) (pe_call G_law_pick (hr.mono (by decide)) rfl mg_law_pick kp_law_pick bi_law_pick .nil pass0 (pa_cons (pv 1) (pa_cons pe_int pa_nil)))) (pa_cons (pe_op op_sub (pe_call G_law_pick (hr.mono (by decide)) rfl mg_law_pick kp_law_pick bi_law_pick .nil pass0 (pa_cons (pv 1) (pa_cons pe_int pa_nil))) pe_int) pa_nil))))) (pss_cons (ps_set (i := 10) sc_law.nd rfl (by first | exact Or.inl rfl | exact Or.inr rfl) (pe_tup (pa_cons (pv 7) (pa_cons (pe_callB (call_maxT rfl) rfl (hB "max" (by decide +kernel)) bt_max (pa_cons (pe_op op_sub pe_int (pv 5)) (pa_cons (pe_callB (call_min2 rfl) rfl (hB "min" (by decide +kernel)) bt_min (pa_cons (pe_op op_sub (pv 5) pe_int) (pa_cons (pe_ix ix_seq (pv 9) (pe_call G_law_pick (hr.mono (by decide)) rfl mg_law_pick kp_law_pick bi_law_pick .nil pass0 (pa_cons (pv 1) (pa_cons pe_int pa_nil))) (fun _ _ => rfl)) pa_nil))) pa_nil))) pa_nil)))) (pss_cons (ps_set (i := 11) sc_law.nd rfl (by first | exact Or.inl rfl | exact Or.inr rfl) (pe_call G_law_root_good (hr.mono (by decide)) rfl mg_law_root_good kp_law_root_good bi_law_root_good .nil pass0 (pa_cons (pv 2) (pa_cons (pv 3) (pa_cons (pv 4) (pa_cons (pv 10) pa_nil)))))) (pss_cons (ps_if (pt_cmpR op_isN (pv 11) pe_non (nomark _)) (pss_one (ps_set (i := 11) sc_law.nd rfl (by first | exact Or.inl rfl | exact Or.inr rfl) (pe_listRg rfl rfl (hB "list" (by decide +kernel)) (prg_2 rfl (hB "range" (by decide +kernel)) (pe_op op_sub pe_int (pe_ix ix_seq (pv 2) pe_int (fun _ _ => rfl))) (pe_op op_addU (pe_ix ix_seq (pv 2) pe_int (fun _ _ => rfl)) pe_int))))) pss_nil) (pss_one (ps_for PassesOwn.never rfl (pi_range1 rfl (hB "range" (by decide +kernel)) (pa_cons pe_int pa_nil)) (pg_name (i := 12) sc_law.nd rfl (by first | exact Or.inl rfl | exact Or.inr rfl)) (pss_cons (ps_set (i := 13) sc_law.nd rfl (by first | exact Or.inl rfl | exact Or.inr rfl) (pe_call G_root_good (hr.mono (by decide)) rfl mg_root_good kp_root_good bi_root_good .nil pass0 (pa_cons (pv 2) (pa_cons (pv 3) (pa_cons (pv 4) (pa_cons (pv 10) pa_nil)))))) (pss_cons (ps_if (PW.pt (pw_or (pt_not (pt_val (pe_callB call_isi rfl (hB "isinstance" (by decide +kernel)) bt_isinstance (pa_cons (pv 13) (pa_cons (pe_bltn (v := .ty "list") rfl (hB "list" (by decide +kernel)) bt_list rfl) pa_nil))))) (pw_or1 (pt_cmpR (op_neD hr.units) (pv 13) (pv 11) (nomark _))))) (pss_one (ps_ret pe_bl)) pss_nil) (pss_cons (ps_expr (pe_bm PySem.F.plainAttrs_list PySem.F.slot_list_append PySem.F.type_list_append mt_append (pv 13) (pa_cons pe_int pa_nil))) pss_nil))))))))))))))) (pss_one (ps_ret pe_bl))))))))), fun c hps hrk hmg => ?_⟩)
  show DC K c [] [.sh, .sh, .sh, .sh, .sh, .sh, .sh, .sh, .sh, .sh, .sh, .sh, .sh, .sh] _ b_law _
  exact (c_cons (c_setO 1 (o_call (da_cons (d_op g_ix (DE.b (d_op g_add (DE.b (d_var 0)) (DE.b (d_lst (da_cons d_int da_nil))))) (DE.b d_int)) (da_cons d_int da_nil)))) (c_cons (c_set 2 (DO.sh (o_call1 1 (k := .ls .sh) da_nil (.inl rfl)))) (c_cons (c_set 3 (d_tup (da_cons (d_op g_add (DE.b d_int) (DE.b (DO.sh (o_call1 1 (k := .ls .sh) (da_cons d_int da_nil) (.inl rfl))))) (da_cons (DO.sh (o_call1 1 (k := .ls .sh) (da_cons d_int da_nil) (.inl rfl))) da_nil)))) (c_cons (c_set 4 (d_cb g_maxT (dab_cons (DE.b d_int) (dab_cons (DE.b (d_op g_sub (DE.b (d_op g_add (DE.b (d_op g_sub (DE.b (d_bits (d_op g_ix (DE.b (d_var 2)) (DE.b d_int)))) (DE.b d_int))) (DE.b (d_op g_ix (DE.b (d_var 3)) (DE.b d_int))))) (DE.b d_int))) dab_nil)))) (c_cons (c_set 4 (d_op g_add (DE.b (d_var 4)) (DE.b (d_op g_ix (DE.b (d_lst (da_cons (DO.sh (o_call1 1 (k := .ls .sh) (da_cons d_int da_nil) (.inl rfl))) (da_cons (DO.sh (o_call1 1 (k := .ls .sh) (da_cons d_int da_nil) (.inl rfl))) da_nil)))) (DE.b (DO.sh (o_call1 1 (k := .ls .sh) (da_cons d_int da_nil) (.inl rfl)))))))) (c_cons (c_set 5 (DO.sh (o_call (da_cons (d_var 2) (da_cons (d_var 3) da_nil))))) (c_cons (c_for (i_seq (d_op g_add (DE.b (d_sl (DE.b (d_var 0)) (p_some d_int) (p_some d_int))) (DE.b (d_lst (da_cons d_int da_nil))))) (g_name 6) (c_cons (c_setO 1 (o_call (da_cons (d_var 6) (da_cons d_int da_nil)))) (c_cons (c_set 7 (d_op g_add (DE.b (d_op g_shl (DE.b d_int) (DE.b (d_op g_sub (DE.b (d_op g_ix (DE.b (d_var 3)) (DE.b d_int))) (DE.b d_int))))) (DE.b (DO.sh (o_call1 1 (k := .ls .sh) (da_cons (d_op g_shl (DE.b d_int) (DE.b (d_op g_sub (DE.b (d_op g_ix (DE.b (d_var 3)) (DE.b d_int))) (DE.b d_int)))) da_nil) (.inl rfl)))))) (c_cons (c_set 8 (d_op g_mul (DE.b (d_op g_mul (DE.b (d_op g_mul (DE.b (d_op g_ix (DE.b (d_var 2)) (DE.b d_int))) (DE.b (d_op g_ix (DE.b (d_var 2)) (DE.b d_int))))) (DE.b (d_op g_add (DE.b (d_var 7)) (DE.b d_int))))) (DE.b (d_op g_shl (DE.b d_int) (DE.b (d_op g_ix (DE.b (d_var 3)) (DE.b d_int))))))) (c_cons (c_set 8 (d_op g_div (DE.b (d_var 8)) (DE.b (d_op g_mul (DE.b (d_op g_sub (DE.b (d_op g_ix (DE.b (d_var 2)) (DE.b d_int))) (DE.b d_int))) (DE.b (d_op g_shl (DE.b d_int) (DE.b (d_op g_ix (DE.b (d_var 3)) (DE.b d_int))))))))) (c_cons (c_set 9 (d_lst (da_cons (d_op g_sub (DE.b (DO.sh (o_call1 1 (k := .ls .sh) (da_cons (d_op g_mul (DE.b d_int) (DE.b (d_var 5))) da_nil) (.inl rfl)))) (DE.b (d_var 5))) (da_cons (d_op g_sub (DE.b (d_op g_add (DE.b (d_var 8)) (DE.b (DO.sh (o_call1 1 (k := .ls .sh) (da_cons d_int da_nil) (.inl rfl)))))) (DE.b d_int)) da_nil)))) (c_cons (c_set 9 (d_op g_add (DE.b (d_var 9)) (DE.b (d_lst (da_cons (d_op g_sub (DE.b (d_op g_sub (DE.b d_int) (DE.b (d_var 8)))) (DE.b (DO.sh (o_call1 1 (k := .ls .sh) (da_cons d_int da_nil) (.inl rfl))))) (da_cons (d_op g_sub (DE.b (DO.sh (o_call1 1 (k := .ls .sh) (da_cons d_int da_nil) (.inl rfl)))) (DE.b d_int)) da_nil)))))) (c_cons (c_set 10 (d_tup (da_cons (d_var 7) (da_cons (d_cb g_maxT (dab_cons (DE.b (d_op g_sub (DE.b d_int) (DE.b (d_var 5)))) (dab_cons (DE.b (d_cb g_min (dab_cons (DE.b (d_op g_sub (DE.b (d_var 5)) (DE.b d_int))) (dab_cons (DE.b (d_op g_ix (DE.b (d_var 9)) (DE.b (DO.sh (o_call1 1 (k := .ls .sh) (da_cons d_int da_nil) (.inl rfl)))))) dab_nil)))) dab_nil))) da_nil)))) (c_cons (c_set 11 (DO.sh (o_call (da_cons (d_var 2) (da_cons (d_var 3) (da_cons (d_var 4) (da_cons (d_var 10) da_nil))))))) (c_cons (c_if (d_test (d_op g_isN (DE.b (d_var 11)) (DE.b d_non))) (c_set 11 (DO.e (o_lstRg (rg_2 (d_op g_sub (DE.b d_int) (DE.b (d_op g_ix (DE.b (d_var 2)) (DE.b d_int)))) (d_op g_add (DE.b (d_op g_ix (DE.b (d_var 2)) (DE.b d_int))) (DE.b d_int)))))) c_nil) (c_for (i_r1 (da_cons d_int da_nil)) (g_name 12) (c_cons (c_setO 13 (o_call (da_cons (d_var 2) (da_cons (d_var 3) (da_cons (d_var 4) (da_cons (d_var 10) da_nil)))))) (c_cons (c_if (d_or (d_not (d_tB (d_isi "list" (d_slot 13)))) (d_test (d_op g_ne (d_slot 13) (DE.b (d_var 11))))) (c_ret d_bl hrk) c_nil) (c_cons (c_app 13 d_int) (c_kill 13 (by first | decide | exact of_decide_eq_true rfl) rfl c_nil))))))))))))))) (c_ret d_bl hrk))))))))
end
end S
set_option Elab.async false
set_option linter.all false
set_option maxRecDepth 100000
set_option maxHeartbeats 1000000
namespace S
open PySem L2 Z
local macro_rules | `(tactic| walk_at "z") => `(tactic| try simp (config := { dsimp := false }) only [↓run_nx, ↓run_no, ↓run_bk, ↓run_ct, ↓run_seq, ↓run_set, ↓run_drop, ↓run_ret, ↓run_asg, ↓run_app, ↓run_put, ↓run_aug, ↓run_frz, ↓run_kill, ↓xr_if, ↓ev_lc, ↓ev_yes, ↓run_ext, ↓ev_enum, ↓run_asgT, ↓run_retM, ↓run_fld, ↓ev_fld, ↓ev_at, ↓xv_callG, ↓xv_tupG, ↓xv_meth, ↓xv_make, ↓ev_move, so_tof, so_nonO, so_fillN, so_fillE, so_fillS, bkG0, bkGE, bkGF, bkGT, stD0, stDC, so_dof, so_noFd, fdN, fdC, fdE, fdO, ptN, ptC, ptE, ptO, nm_ahead_end, nm_ahead_ended, nm_ahead_figures, nm_ahead_is_figure, nm_ahead_kind, nm_ahead_last, nm_ahead_parted, nm_ahead_put, nm_ahead_told, nm_ask_cell_kind, nm_ask_cell_looks, nm_ask_cell_sight, nm_ask_cell_table, nm_base_below, nm_base_held, nm_base_put, nm_base_under, nm_base_upper, nm_begin_done, nm_begin_figures, nm_begin_great, nm_begin_kind, nm_begin_left, nm_begin_looks, nm_begin_numbers, nm_begin_rows, nm_begin_seen, nm_begin_stand, nm_begin_wide, nm_begin_works, nm_begin_rows_done, nm_begin_rows_kind, nm_begin_rows_looks, nm_begin_rows_rows, nm_begin_rows_seen, nm_begin_rows_works, nm_below_base, nm_below_under, nm_below_upper, nm_deeds_done, nm_deeds_kind, nm_deeds_looks, nm_deeds_rows, nm_deeds_seen, nm_deeds_works, nm_divided_kind, nm_divided_looks, nm_divided_sight, nm_divided_table, nm_done_begin, nm_done_begin_rows, nm_done_deeds, nm_done_entries, nm_done_go, nm_done_kind, nm_done_looked, nm_done_looks, nm_done_put, nm_done_rest, nm_done_row, nm_done_rows, nm_done_seen, nm_done_work, nm_done_works, nm_done_wrong, nm_end_ahead, nm_end_ended, nm_end_figures, nm_end_kind, nm_end_last, nm_ended_ahead, nm_ended_end, nm_ended_figures, nm_ended_is_figure, nm_ended_kind, nm_ended_last, nm_ended_parted, nm_ended_put, nm_ended_told, nm_entered_kind, nm_entered_looks, nm_entered_sight, nm_entered_table, nm_entries_done, nm_entries_kind, nm_entries_looks, nm_entries_rows, nm_entries_seen, nm_entries_works, nm_figures_ahead, nm_figures_begin, nm_figures_end, nm_figures_ended, nm_figures_great, nm_figures_is_figure, nm_figures_kind, nm_figures_last, nm_figures_left, nm_figures_looks, nm_figures_numbers, nm_figures_parted, nm_figures_put, nm_figures_rest, nm_figures_stand, nm_figures_told, nm_figures_tried, nm_figures_wide, nm_go_done, nm_go_kind, nm_go_looks, nm_go_rows, nm_go_seen, nm_go_works, nm_great_begin, nm_great_figures, nm_great_kind, nm_great_left, nm_great_looks, nm_great_numbers, nm_great_rest, nm_great_stand, nm_great_tried, nm_great_wide, nm_held_base, nm_held_under, nm_held_upper, nm_is_figure_ahead, nm_is_figure_ended, nm_is_figure_figures, nm_is_figure_kind, nm_is_figure_last, nm_kind_ahead, nm_kind_ask_cell, nm_kind_begin, nm_kind_begin_rows, nm_kind_deeds, nm_kind_divided, nm_kind_done, nm_kind_end, nm_kind_ended, nm_kind_entered, nm_kind_entries, nm_kind_figures, nm_kind_go, nm_kind_great, nm_kind_is_figure, nm_kind_last, nm_kind_left, nm_kind_looked, nm_kind_looks, nm_kind_numbers, nm_kind_parted, nm_kind_put, nm_kind_put_all, nm_kind_rest, nm_kind_row, nm_kind_rows, nm_kind_say, nm_kind_seen, nm_kind_sight, nm_kind_stand, nm_kind_table, nm_kind_told, nm_kind_tried, nm_kind_turned, nm_kind_wide, nm_kind_work, nm_kind_works, nm_kind_wrong, nm_last_ahead, nm_last_end, nm_last_ended, nm_last_figures, nm_last_is_figure, nm_last_kind, nm_last_parted, nm_last_put, nm_last_told, nm_left_begin, nm_left_figures, nm_left_great, nm_left_kind, nm_left_looks, nm_left_numbers, nm_left_rest, nm_left_stand, nm_left_tried, nm_left_wide, nm_look_top, nm_looked_done, nm_looked_kind, nm_looked_looks, nm_looked_rows, nm_looked_seen, nm_looked_sight, nm_looked_table, nm_looked_works, nm_looks_ask_cell, nm_looks_begin, nm_looks_begin_rows, nm_looks_deeds, nm_looks_divided, nm_looks_done, nm_looks_entered, nm_looks_entries, nm_looks_figures, nm_looks_go, nm_looks_great, nm_looks_kind, nm_looks_left, nm_looks_looked, nm_looks_numbers, nm_looks_put, nm_looks_put_all, nm_looks_rest, nm_looks_row, nm_looks_rows, nm_looks_say, nm_looks_seen, nm_looks_sight, nm_looks_stand, nm_looks_table, nm_looks_told, nm_looks_tried, nm_looks_turned, nm_looks_wide, nm_looks_work, nm_looks_works, nm_looks_wrong, nm_numbers_begin, nm_numbers_figures, nm_numbers_great, nm_numbers_kind, nm_numbers_left, nm_numbers_looks, nm_numbers_rest, nm_numbers_stand, nm_numbers_tried, nm_numbers_wide, nm_parted_ahead, nm_parted_ended, nm_parted_figures, nm_parted_kind, nm_parted_last, nm_put_ahead, nm_put_base, nm_put_done, nm_put_ended, nm_put_figures, nm_put_kind, nm_put_last, nm_put_looks, nm_put_rows, nm_put_seen, nm_put_under, nm_put_upper, nm_put_works, nm_put_all_kind, nm_put_all_looks, nm_put_all_sight, nm_put_all_table, nm_rest_done, nm_rest_figures, nm_rest_great, nm_rest_kind, nm_rest_left, nm_rest_looks, nm_rest_numbers, nm_rest_rows, nm_rest_seen, nm_rest_stand, nm_rest_wide, nm_rest_works, nm_row_done, nm_row_kind, nm_row_looks, nm_row_rows, nm_row_seen, nm_row_works, nm_rows_begin, nm_rows_begin_rows, nm_rows_deeds, nm_rows_done, nm_rows_entries, nm_rows_go, nm_rows_kind, nm_rows_looked, nm_rows_looks, nm_rows_put, nm_rows_rest, nm_rows_row, nm_rows_seen, nm_rows_work, nm_rows_works, nm_rows_wrong, nm_say_kind, nm_say_looks, nm_say_sight, nm_say_table, nm_seen_begin, nm_seen_begin_rows, nm_seen_deeds, nm_seen_done, nm_seen_entries, nm_seen_go, nm_seen_kind, nm_seen_looked, nm_seen_looks, nm_seen_put, nm_seen_rest, nm_seen_row, nm_seen_rows, nm_seen_work, nm_seen_works, nm_seen_wrong, nm_sight_ask_cell, nm_sight_divided, nm_sight_entered, nm_sight_kind, nm_sight_looked, nm_sight_looks, nm_sight_put_all, nm_sight_say, nm_sight_table, nm_sight_told, nm_sight_turned, nm_stand_begin, nm_stand_figures, nm_stand_great, nm_stand_kind, nm_stand_left, nm_stand_looks, nm_stand_numbers, nm_stand_rest, nm_stand_tried, nm_stand_wide, nm_table_ask_cell, nm_table_divided, nm_table_entered, nm_table_kind, nm_table_looked, nm_table_looks, nm_table_put_all, nm_table_say, nm_table_sight, nm_table_told, nm_table_turned, nm_told_ahead, nm_told_ended, nm_told_figures, nm_told_kind, nm_told_last, nm_told_looks, nm_told_sight, nm_told_table, nm_top_look, nm_tried_figures, nm_tried_great, nm_tried_kind, nm_tried_left, nm_tried_looks, nm_tried_numbers, nm_tried_stand, nm_tried_wide, nm_turned_kind, nm_turned_looks, nm_turned_sight, nm_turned_table, nm_under_base, nm_under_below, nm_under_held, nm_under_put, nm_under_upper, nm_upper_base, nm_upper_below, nm_upper_held, nm_upper_put, nm_upper_under, nm_wide_begin, nm_wide_figures, nm_wide_great, nm_wide_kind, nm_wide_left, nm_wide_looks, nm_wide_numbers, nm_wide_rest, nm_wide_stand, nm_wide_tried, nm_work_done, nm_work_kind, nm_work_looks, nm_work_rows, nm_work_seen, nm_work_works, nm_works_begin, nm_works_begin_rows, nm_works_deeds, nm_works_done, nm_works_entries, nm_works_go, nm_works_kind, nm_works_looked, nm_works_looks, nm_works_put, nm_works_rest, nm_works_row, nm_works_rows, nm_works_seen, nm_works_work, nm_works_wrong, nm_wrong_done, nm_wrong_kind, nm_wrong_looks, nm_wrong_rows, nm_wrong_seen, nm_wrong_works, sz1, sz2, sz3, sz4, sz5, sz6, sz7, sz8, sz9, sz10, sz11, true_and, ↓run_putP, ↓run_appP, ↓ev_plR, ↓ev_plIx, ↓ev_fz, ↓ev_rep, ↓run_fo, ↓run_wh, ↓ev_ok, ↓ev_opt, ↓ev_var, ↓ev_C, ↓ev_V, ↓ev_slot, ↓ev_op, ↓ev_un, ↓ev_B, ↓ev_not, ↓ev_notV, ↓ev_nil, ↓ev_cons, ↓ev_nilB, ↓ev_consB, ↓ev_tup, ↓ev_lst, ↓ev_B1, ↓ev_sl, ↓ev_P0, ↓ev_P1, ↓ev_Rg1, ↓ev_Rg2, ↓ev_LstRg, ↓ev_It, ↓ev_R1, ↓ev_R2, ↓xv_and, ↓xv_or, ↓xv_andV, ↓xv_orV, ↓xv_if, ↓xv_chain, ↓xv_call, ↓xv_call1, ↓xv_callT, hdC, br_t, br_f, so_some, so_none, so_mapN, so_mapC, lks_eq, rg_z, rg_s, lk0, lkS, st0, stS, entry0, entryS, rep0, repS, res_val, res_slot, so_add, so_sub, so_addN, so_subN, so_mul, so_div, so_mod, so_pow, so_shl, so_shr, so_and, so_or, so_xor, so_lt, so_le, so_gt, so_ge, so_eqI, so_neI, so_neg, so_isN, so_notN, non_n, non_i, non_t, non_l, non_b, non_s, so_ixL, so_ixT, at0, at1, at2, at3, ix0, ix1, ix2, ixN30, ixN31, ixN32, so_tru, so_iof, so_lof, so_itL, so_itT, so_r1, so_r2, so_abs, so_max, so_min, so_intB, so_intI, ii_i, ib_i, ib_b, ii_b, it_t, it_l, il_l, il_t, so_cat, so_inL, so_inT, so_ninL, so_ninT, so_maxI, so_maxT, so_rev, so_bits, so_en, wpD0, wpDC, bk0, bkC, oat0, oatS, so_catD, so_isBl, so_notBl, so_listOfL, so_listOfT, so_listL, so_listT, so_tupL, so_tupT, mx0, mxC, fz0, fzC, flO, flN, noL_i, noL_n, noL_b, noL_s, noL_t, noLs_n, noLs_c, Bool.and_true, Bool.and_self, getP0, setP0, so_ixP0, so_getP1, so_slL, so_lenL, so_lenT, so_gN, Int.cast_ofNat_Int, so_gT, so_gL, so_gC, so_gE, Int.toNat_natCast, Int.one_mul, modC_eq, shrC_eq, powC_eq, fits0, fits1, fits2, fits3, fits4, fits5, fits6, fits7, fits8, fits9, fits10, fits11, fits12, fits13, fits14, fits15, fits16, rngC_eq, List.length_cons, List.length_nil, Nat.reduceAdd, Nat.zero_add, List.set_cons_zero, List.set_cons_succ, true_and, and_true, decide_true, decide_false, Bool.not_true, Bool.not_false, Int.reduceLT, Int.reduceSub, Int.reduceAdd, Int.reduceMul, Int.reduceNeg, Int.reduceDiv, Int.reduceMod, Int.reduceEq, Int.reduceLE, Int.reduceToNat, Int.reducePow, nab10, nab2, eq_self])
local macro_rules | `(tactic| walk_at "e") => `(tactic| (simp (config := { dsimp := false }) only [entryS, entry0, repS, rep0]; walk_at "z"))
structure Dk (n : Nat) (d : D) : Prop where
  is : ∃ a b c : Int, d = .list [.int a, .int b, .int c] ∧ 0 ≤ b ∧ b < 2147483579 ∧ 0 ≤ c ∧ c ≤ n
theorem pick_cl {n : Nat} {e : D} {m : Int} {Q : D → List D → Prop} (h : Dk n e) (hn : n ≤ 100000000000) (h1 : divC 0 m = true) (q : ∀ v e', 0 ≤ v → v < m → Dk (n + 1) e' → Q (.int v) [e', .int m]) : Cl F_law_pick [e, .int m] Q := by
  obtain ⟨a, b, c, rfl, hb0, hb1, hc0, hc1⟩ := h.is
  have hm := divC_pos h1
  refine fn_cl rfl ?_
  unfold b_law_pick
  walk_at "e"
  refine br_d (fun h => ?_) fun h => ?_
  · walk_at "z"
    exact ⟨hm, divC_any h1, q _ _ (Int.emod_nonneg _ (by omega)) (Int.emod_lt_of_pos _ hm) ⟨_, _, _, rfl, hb0, hb1, hc0, by omega⟩⟩
  · walk_at "z"
    have p1 : 0 ≤ (b + 15485867 * (c + 1)) ^ 5 % 2147483647 := Int.emod_nonneg _ (by omega)
    have p2 : (b + 15485867 * (c + 1)) ^ 5 % 2147483647 < 2147483647 := Int.emod_lt_of_pos _ (by omega)
    generalize (b + 15485867 * (c + 1)) ^ 5 % 2147483647 = u at *
    have p3 : 0 ≤ (u + 7919 * (c + 1)) ^ 3 % 2147483629 / 32 := Int.ediv_nonneg (Int.emod_nonneg _ (by omega)) (by omega)
    have p4 : (u + 7919 * (c + 1)) ^ 3 % 2147483629 / 32 < 2147483629 := by
      have := Int.emod_lt_of_pos ((u + 7919 * (c + 1)) ^ 3) (by omega : (0 : Int) < 2147483629)
      omega
    refine ⟨mulC_of (m := 24) (n := 64) (by omega) (by omega), by omega, mulC_of (m := 24) (n := 64) (by omega) (by omega), by omega, divL, ?_⟩
    generalize (u + 7919 * (c + 1)) ^ 3 % 2147483629 / 32 = v at *
    refine br_d (fun h => ?_) fun h => ?_
    · walk_at "z"
      exact ⟨mulC_of (m := 64) (n := 64) (by omega) (by omega), hm, q _ _ (Int.emod_nonneg _ (by omega)) (Int.emod_lt_of_pos _ hm) ⟨_, _, _, rfl, hb0, hb1, by omega, by omega⟩⟩
    · walk_at "z"
      exact ⟨hm, q _ _ (Int.emod_nonneg _ (by omega)) (Int.emod_lt_of_pos _ hm) ⟨_, _, _, rfl, hb0, hb1, by omega, by omega⟩⟩
theorem Dk.mono {n m : Nat} {e : D} (h : Dk n e) (hm : n ≤ m) : Dk m e := by
  obtain ⟨a, b, c, rfl, h1, h2, h3, h4⟩ := h.is
  exact ⟨a, b, c, rfl, h1, h2, h3, by omega⟩
theorem deck_cl {n : Nat} {cell t : Int} {Q : D → List D → Prop} (h0 : 0 ≤ t) (h1 : t ≤ n) (q : ∀ e, Dk n e → Q e [.int cell, .int t]) : Cl F_law_deck [.int cell, .int t] Q := by
  refine fn_cl rfl ?_
  unfold b_law_deck
  walk_at "e"
  have p1 : 0 ≤ cell % 2147483579 := Int.emod_nonneg _ (by omega)
  have p2 : cell % 2147483579 < 2147483579 := Int.emod_lt_of_pos _ (by omega)
  refine br_d (fun h => ?_) fun h => ?_
  · walk_at "z"
    exact q _ ⟨_, _, _, rfl, p1, p2, h0, h1⟩
  · walk_at "z"
    exact q _ ⟨_, _, _, rfl, p1, p2, h0, h1⟩
theorem so_atP {l : List D} {i : Int} {Q : D → Prop} (P : D → Prop) (h0 : 0 ≤ i) (h1 : i < l.length) (hP : ∀ x ∈ l, P x) (q : ∀ x, P x → Q x) : So (atI l i) Q :=
  so_at h0 h1 fun v hv => q v (hP v (List.mem_of_getElem? hv))
/-- an int within bounds -/
def Bt (a b : Int) (d : D) : Prop := ∃ v : Int, d = .int v ∧ a ≤ v ∧ v ≤ b
structure Knd (b m : Int) : Prop where
  base : b = 2 ∨ b = 4 ∨ b = 8 ∨ b = 16
  lo : b ≤ 2 * m
  hi : m < b
theorem Knd.b2 {b m : Int} (k : Knd b m) : 2 ≤ b ∧ b ≤ 16 ∧ 1 ≤ m ∧ m ≤ 15 := by
  have := k.lo
  have := k.hi
  rcases k.base with h | h | h | h <;> omega
theorem kind_cl {n : Nat} {e : D} {Q : D → List D → Prop} (h : Dk n e) (hn : n ≤ 10000000000) (q : ∀ b m e', Knd b m → Dk (n + 2) e' → Q (.tuple [.int b, .int m]) [e']) : Cl F_law_kind [e] Q := by
  refine fn_cl rfl ?_
  unfold b_law_kind
  walk_at "e"
  refine pick_cl h (by omega) divL fun v e1 v0 v1 h1 => ?_
  walk_at "z"
  refine so_atP (fun d => ∃ b : Int, d = .int b ∧ (b = 2 ∨ b = 4 ∨ b = 8 ∨ b = 16)) v0 (by simpa using v1) (by simp) fun d hd => ?_
  obtain ⟨b, rfl, hb⟩ := hd
  walk_at "z"
  refine ⟨divL, divL, ?_⟩
  refine pick_cl h1 (by omega) (divC_of (n := 5) (by omega) (by omega)) fun m e2 m0 m1 h2 => ?_
  walk_at "z"
  exact q _ _ _ ⟨hb, by omega, by omega⟩ h2
theorem abs_mul {x y : Int} {m n : Nat} (hx : x.natAbs < 2 ^ m) (hy : y.natAbs < 2 ^ n) : (x * y).natAbs < 2 ^ (m + n) := by
  rw [Int.natAbs_mul, Nat.pow_add]
  exact Nat.mul_lt_mul_of_lt_of_lt hx hy
theorem abs_up {x : Int} {m n : Nat} (hx : x.natAbs < 2 ^ m) (h : m ≤ n := by decide) : x.natAbs < 2 ^ n := Nat.lt_of_lt_of_le hx (Nat.pow_le_pow_right (by omega) h)
theorem shl_ok {x : Int} {n : Nat} (hx : x.natAbs < 2 ^ 64) (h : n ≤ 1000) : shlC x n = true := shlC_of (m := 64) (by omega) hx (by omega)
theorem half_cl {b m t : Int} {p : Nat} {Q : D → List D → Prop} (b0 : 2 ≤ b) (b1 : b ≤ 16) (hp : p ≤ 10) (q : ∀ as, Q (.int (b * 2 ^ p + 2)) as) : Cl F_law_half [.tuple [.int b, .int m], .tuple [.int t, .int p]] Q := by
  refine fn_cl rfl ?_
  unfold b_law_half
  walk_at "e"
  have key : atI [PyData.int 1, .int 2, .int 4, .int 8, .int 16, .int 32, .int 64, .int 128, .int 256, .int 512, .int 1024] (p : Int) = some (.int (2 ^ p)) := by
    match p, hp with
    | 0, _ => rfl
    | 1, _ => rfl
    | 2, _ => rfl
    | 3, _ => rfl
    | 4, _ => rfl
    | 5, _ => rfl
    | 6, _ => rfl
    | 7, _ => rfl
    | 8, _ => rfl
    | 9, _ => rfl
    | 10, _ => rfl
  rw [key]
  walk_at "z"
  have : ((2 : Int) ^ p).natAbs < 2 ^ 11 := pow2_abs (by omega)
  exact ⟨mulC_of (m := 5) (n := 11) (by omega) this, q _⟩
def bitsN (b : Int) : Nat := if b = 2 then 1 else if b = 4 then 2 else if b = 8 then 3 else 4
theorem Knd.bits {b m : Int} (k : Knd b m) : (2 : Int) ^ bitsN b = b ∧ 1 ≤ bitsN b ∧ bitsN b ≤ 4 := by
  rcases k.base with rfl | rfl | rfl | rfl <;> decide
theorem bits_lo {d : Int} (h : 0 < d) : (2 : Int) ^ (Builtin.Int.intBits d - 1) ≤ d ∧ d < 2 ^ Builtin.Int.intBits d ∧ 1 ≤ Builtin.Int.intBits d := by
  unfold Builtin.Int.intBits
  have h0 : d.natAbs ≠ 0 := by omega
  rw [if_neg (by simpa using h0), Nat.add_sub_cancel, nap2, nap2]
  have h1 := Nat.log2_self_le h0
  have h2 : d.natAbs < 2 ^ (d.natAbs.log2 + 1) := (Nat.log2_lt h0).mp (by omega)
  refine ⟨?_, ?_, by omega⟩
  · omega
  · omega
theorem bits_is {d : Int} {n : Nat} (n1 : 1 ≤ n) (h1 : (2 : Int) ^ (n - 1) ≤ d) (h2 : d < 2 ^ n) : Builtin.Int.intBits d = n := by
  have d0 : 0 < d := Int.lt_of_lt_of_le (pow2_pos _) h1
  obtain ⟨g1, g2, g3⟩ := bits_lo d0
  have key : ∀ {a c : Nat}, (2 : Int) ^ a < 2 ^ c → a < c := fun {a c} h => by
    rw [nap2, nap2] at h
    exact (Nat.pow_lt_pow_iff_right (by omega)).mp (Int.ofNat_lt.mp h)
  have a1 := key (Int.lt_of_le_of_lt g1 h2)
  have a2 := key (Int.lt_of_le_of_lt h1 g2)
  omega
theorem ints_item {ns : List Int} {lo hi : Option Int} {i : Nat} {d : D} (h : (cutD (ns.map PyData.int) lo hi ++ [.int 0])[i]? = some d) : ∃ z, d = .int z := by
  have := List.mem_of_getElem? h
  rw [List.mem_append] at this
  rcases this with h | h
  · obtain ⟨j, hj⟩ := List.getElem?_of_mem h
    obtain ⟨z, _, rfl⟩ := List.mem_map.mp (cut_mem hj)
    exact ⟨z, rfl⟩
  · exact ⟨0, by simpa using h⟩
theorem cut_len {l : List D} {lo hi : Option Int} : (cutD l lo hi).length ≤ l.length := by
  unfold cutD
  rw [List.length_take, List.length_drop]
  omega
theorem first_at (ns : List Int) : ∃ z, atI (ns.map PyData.int ++ [.int 0]) 0 = some (.int z) := by
  cases ns with
  | nil => exact ⟨0, at0⟩
  | cons a l => exact ⟨a, at0⟩
/-! ### tables -/
def Fig (m : Int) (e : D) : Prop := e = .none ∨ ∃ q : Int, e = .int q ∧ -m ≤ q ∧ q ≤ m
structure Tb (R W : Nat) (m : Int) (tab : List D) : Prop where
  len : tab.length = R
  row : ∀ (i : Nat) (d : D), tab[i]? = some d → ∃ r : List D, d = .list r ∧ r.length = W ∧ ∀ e ∈ r, Fig m e
def entD (tab : List D) (i j : Nat) : D := match tab[i]? with
  | some (.list r) => r.getD j .none
  | _ => .none
theorem Tb.at {R W : Nat} {m : Int} {tab : List D} (h : Tb R W m tab) {i : Nat} (hi : i < R) : ∃ r : List D, tab[i]? = some (.list r) ∧ r.length = W ∧ (∀ e ∈ r, Fig m e) ∧ ∀ j, entD tab i j = r.getD j .none := by
  have hl : i < tab.length := by rw [h.len]; exact hi
  obtain ⟨r, e, h1, h2⟩ := h.row i _ (List.getElem?_eq_getElem hl)
  have e' : tab[i]? = some (.list r) := by rw [List.getElem?_eq_getElem hl, e]
  exact ⟨r, e', h1, h2, fun j => by unfold entD; rw [e']⟩
theorem Tb.fig {R W : Nat} {m : Int} {tab : List D} (h : Tb R W m tab) {i j : Nat} (hi : i < R) (hj : j < W) : Fig m (entD tab i j) := by
  obtain ⟨r, _, h1, h2, h3⟩ := h.at hi
  rw [h3, List.getD_eq_getElem?_getD, List.getElem?_eq_getElem (by omega)]
  exact h2 _ (List.getElem_mem _)
theorem fig_flat {m : Int} {e : D} (h : Fig m e) : flatD e = true := by
  rcases h with rfl | ⟨q, rfl, _⟩ <;> rfl
def hN (b : Int) (P : Nat) : Nat := b.toNat * 2 ^ P + 2
theorem hN_eq {b : Int} {P : Nat} (hb : 0 ≤ b) : ((hN b P : Nat) : Int) = b * 2 ^ P + 2 := by
  unfold hN
  rw [Int.natCast_add, Int.natCast_mul, Int.toNat_of_nonneg hb, Int.natCast_pow]
  rfl
theorem one_shl' {T : Nat} (h : 1 ≤ T) : (1 : Int) * 2 ^ ((T : Int) - 1).toNat = 2 ^ (T - 1) := by
  rw [Int.one_mul]
  congr 1
  omega
theorem shl1C' {T : Nat} (h : 1 ≤ T) (h2 : T ≤ 100000) : shlC 1 ((T : Int) - 1) = true := by
  rw [show (T : Int) - 1 = ((T - 1 : Nat) : Int) by omega]
  exact shl1C (by omega)
section
variable {b m : Int} {T P R W : Nat} {tab : List D}
theorem hN_le (b1 : b ≤ 16) (hP : P ≤ 11) : hN b P ≤ 32770 := by
  unfold hN
  have h1 : b.toNat ≤ 16 := by omega
  have h2 : 2 ^ P ≤ 2 ^ 11 := Nat.pow_le_pow_right (by omega) hP
  have := Nat.mul_le_mul h1 h2
  omega
theorem hN_pos : 0 < hN b P := by unfold hN; omega
end
/-! ### rings of places -/
abbrev V3 := Int × Int × Int
def dotQ (x y w : Int) (p : V3) : Int := x * p.1 + y * p.2.1 + w * p.2.2
def absQ (h : Int) : Int := if 0 - h > h then 0 - h else h
def mixQ (s t : Int) (p q : V3) : V3 := (t * p.1 + s * q.1, t * p.2.1 + s * q.2.1, t * p.2.2 + s * q.2.2)
def crQ (h t : Int) : Bool := (decide (h < 0) && decide (0 < t)) || (decide (t < 0) && decide (0 < h))
def cutS (x y w : Int) (p q : V3) : List V3 := (if crQ (dotQ x y w p) (dotQ x y w q) then [mixQ (absQ (dotQ x y w p)) (absQ (dotQ x y w q)) p q] else []) ++ (if 0 ≤ dotQ x y w q then [q] else [])
def getQ (ps : List V3) (k : Nat) : V3 := ps.getD k (0, 0, 0)
def prv (ps : List V3) (k : Nat) : V3 := if k = 0 then getQ ps (ps.length - 1) else getQ ps (k - 1)
def cutP (x y w : Int) (ps : List V3) (i : Nat) : List V3 := (List.range i).flatMap fun k => cutS x y w (prv ps k) (getQ ps k)
def cutF (x y w : Int) (ps : List V3) : List V3 := cutP x y w ps ps.length
theorem cutP_succ {x y w : Int} {ps : List V3} {i : Nat} : cutP x y w ps (i + 1) = cutP x y w ps i ++ cutS x y w (prv ps i) (getQ ps i) := by
  unfold cutP
  rw [List.range_succ, List.flatMap_append, List.flatMap_singleton]
theorem cutS_len {x y w : Int} {p q : V3} : (cutS x y w p q).length ≤ 2 := by
  unfold cutS
  rw [List.length_append]
  split <;> split <;> simp
theorem cutP_len {x y w : Int} {ps : List V3} (i : Nat) : (cutP x y w ps i).length ≤ 2 * i := by
  induction i with
  | zero => exact Nat.le_refl _
  | succ i ih =>
    rw [cutP_succ, List.length_append]
    have := cutS_len (x := x) (y := y) (w := w) (p := prv ps i) (q := getQ ps i)
    omega
theorem getQ_mem {ps : List V3} {k : Nat} (h : k < ps.length) : getQ ps k ∈ ps := by
  unfold getQ
  rw [List.getD_eq_getElem?_getD, List.getElem?_eq_getElem h]
  exact List.getElem_mem _
theorem prv_mem {ps : List V3} {k : Nat} (h : k < ps.length) : prv ps k ∈ ps := by
  unfold prv
  split
  · exact getQ_mem (by omega)
  · exact getQ_mem (by omega)
theorem absQ_pos {h : Int} (z : h ≠ 0) : 0 < absQ h := by unfold absQ; split <;> omega
theorem absQ_abs {h : Int} : (absQ h).natAbs = h.natAbs := by unfold absQ; split <;> omega
theorem crQ_ne {h t : Int} (z : crQ h t = true) : h ≠ 0 ∧ t ≠ 0 := by
  unfold crQ at z
  simp only [Bool.or_eq_true, Bool.and_eq_true, decide_eq_true_eq] at z
  omega
theorem cut_all {x y w : Int} {ps : List V3} (Pr : V3 → Prop) (h : ∀ p ∈ ps, Pr p) (hm : ∀ p ∈ ps, ∀ q ∈ ps, crQ (dotQ x y w p) (dotQ x y w q) = true → Pr (mixQ (absQ (dotQ x y w p)) (absQ (dotQ x y w q)) p q)) : ∀ p ∈ cutF x y w ps, Pr p := by
  intro p hp
  unfold cutF cutP at hp
  obtain ⟨k, hk, hp⟩ := List.mem_flatMap.mp hp
  have hk := List.mem_range.mp hk
  unfold cutS at hp
  rcases List.mem_append.mp hp with hp | hp
  · split at hp
    · next z =>
      cases List.mem_singleton.mp hp
      exact hm _ (prv_mem hk) _ (getQ_mem hk) z
    · cases hp
  · split at hp
    · cases List.mem_singleton.mp hp
      exact h _ (getQ_mem hk)
    · cases hp
theorem mix_dot {x y w : Int} {p q : V3} (z : crQ (dotQ x y w p) (dotQ x y w q) = true) : dotQ x y w (mixQ (absQ (dotQ x y w p)) (absQ (dotQ x y w q)) p q) = 0 := by
  have e : ∀ s t : Int, dotQ x y w (mixQ s t p q) = t * dotQ x y w p + s * dotQ x y w q := fun s t => by
    simp only [dotQ, mixQ]
    grind
  rw [e]
  generalize dotQ x y w p = a at *
  generalize dotQ x y w q = b at *
  unfold crQ at z
  simp only [Bool.or_eq_true, Bool.and_eq_true, decide_eq_true_eq] at z
  unfold absQ
  rcases z with ⟨z1, z2⟩ | ⟨z1, z2⟩
  · rw [if_neg (by omega), if_pos (by omega)]
    grind
  · rw [if_pos (by omega), if_neg (by omega)]
    grind
theorem cut_pos {x y w : Int} {ps : List V3} : ∀ p ∈ cutF x y w ps, 0 ≤ dotQ x y w p := by
  intro p hp
  unfold cutF cutP at hp
  obtain ⟨k, hk, hp⟩ := List.mem_flatMap.mp hp
  unfold cutS at hp
  rcases List.mem_append.mp hp with hp | hp
  · split at hp
    · next z =>
      cases List.mem_singleton.mp hp
      rw [mix_dot z]
      omega
    · cases hp
  · split at hp
    · cases List.mem_singleton.mp hp
      assumption
    · cases hp
theorem getQ_at {ps : List V3} {k : Nat} {p : V3} (h : ps[k]? = some p) : getQ ps k = p := by
  unfold getQ
  rw [List.getD_eq_getElem?_getD, h]
  rfl
theorem cut_mem {x y w : Int} {ps : List V3} {p : V3} (hp : p ∈ ps) (h : 0 ≤ dotQ x y w p) : p ∈ cutF x y w ps := by
  obtain ⟨k, hk⟩ := List.getElem?_of_mem hp
  unfold cutF cutP
  refine List.mem_flatMap.mpr ⟨k, List.mem_range.mpr (List.getElem?_eq_some_iff.mp hk).1, ?_⟩
  unfold cutS
  rw [getQ_at hk, if_pos h]
  simp
theorem cut_adj {x y w : Int} {X Y : List V3} {a b : V3} (h : crQ (dotQ x y w a) (dotQ x y w b) = true) : mixQ (absQ (dotQ x y w a)) (absQ (dotQ x y w b)) a b ∈ cutF x y w (X ++ a :: b :: Y) := by
  unfold cutF cutP
  refine List.mem_flatMap.mpr ⟨X.length + 1, List.mem_range.mpr (by simp), ?_⟩
  have e1 : prv (X ++ a :: b :: Y) (X.length + 1) = a := by
    unfold prv
    rw [if_neg (by omega)]
    exact getQ_at (by simp)
  have e2 : getQ (X ++ a :: b :: Y) (X.length + 1) = b := getQ_at (by rw [List.getElem?_append_right (by omega)]; simp)
  unfold cutS
  rw [e1, e2, if_pos h]
  simp
/-- within the edges -/
structure InQ (le ri lo hi : Int) (p : V3) : Prop where
  w : 0 < p.2.2
  a : le * p.2.2 ≤ p.1
  b : p.1 ≤ ri * p.2.2
  c : lo * p.2.2 ≤ p.2.1
  d : p.2.1 ≤ hi * p.2.2
theorem InQ.mix {le ri lo hi s t : Int} {p q : V3} (hp : InQ le ri lo hi p) (hq : InQ le ri lo hi q) (s0 : 0 < s) (t0 : 0 < t) : InQ le ri lo hi (mixQ s t p q) := by
  obtain ⟨p1, p2, p3, p4, p5⟩ := hp
  obtain ⟨q1, q2, q3, q4, q5⟩ := hq
  have s1 := Int.le_of_lt s0
  have t1 := Int.le_of_lt t0
  refine ⟨?_, ?_, ?_, ?_, ?_⟩ <;> unfold mixQ
  · have := Int.mul_pos t0 p1
    have := Int.mul_pos s0 q1
    show 0 < t * p.2.2 + s * q.2.2
    omega
  · have h1 := Int.mul_le_mul_of_nonneg_left p2 t1
    have h2 := Int.mul_le_mul_of_nonneg_left q2 s1
    show le * (t * p.2.2 + s * q.2.2) ≤ t * p.1 + s * q.1
    grind
  · have h1 := Int.mul_le_mul_of_nonneg_left p3 t1
    have h2 := Int.mul_le_mul_of_nonneg_left q3 s1
    show t * p.1 + s * q.1 ≤ ri * (t * p.2.2 + s * q.2.2)
    grind
  · have h1 := Int.mul_le_mul_of_nonneg_left p4 t1
    have h2 := Int.mul_le_mul_of_nonneg_left q4 s1
    show lo * (t * p.2.2 + s * q.2.2) ≤ t * p.2.1 + s * q.2.1
    grind
  · have h1 := Int.mul_le_mul_of_nonneg_left p5 t1
    have h2 := Int.mul_le_mul_of_nonneg_left q5 s1
    show t * p.2.1 + s * q.2.1 ≤ hi * (t * p.2.2 + s * q.2.2)
    grind
theorem cut_in {x y w le ri lo hi : Int} {ps : List V3} (h : ∀ p ∈ ps, InQ le ri lo hi p) : ∀ p ∈ cutF x y w ps, InQ le ri lo hi p :=
  cut_all _ h fun p hp q hq z => (h p hp).mix (h q hq) (absQ_pos (crQ_ne z).1) (absQ_pos (crQ_ne z).2)
theorem cut_keep {x y w x' y' w' : Int} {ps : List V3} (h : ∀ p ∈ ps, 0 ≤ dotQ x' y' w' p) : ∀ p ∈ cutF x y w ps, 0 ≤ dotQ x' y' w' p :=
  cut_all _ h fun p hp q hq z => by
    have e : ∀ s t : Int, dotQ x' y' w' (mixQ s t p q) = t * dotQ x' y' w' p + s * dotQ x' y' w' q := fun s t => by
      simp only [dotQ, mixQ]
      grind
    rw [e]
    have h1 := Int.mul_nonneg (Int.le_of_lt (absQ_pos (crQ_ne z).2)) (h p hp)
    have h2 := Int.mul_nonneg (Int.le_of_lt (absQ_pos (crQ_ne z).1)) (h q hq)
    omega
/-! ### the ring of a cell, and the closed forms -/
def quadQ (le ri lo hi : Int) : List V3 := [(le, lo, 1), (ri, lo, 1), (ri, hi, 1), (le, hi, 1)]
def ringQ (c L z le ri lo hi : Int) : List V3 := cutF (c * L) (0 - L * L) (c * c * z) (cutF c L 0 (quadQ le ri lo hi))
structure SdQ (c L z le ri lo hi : Int) : Prop where
  c0 : 0 < c
  l0 : 0 < L
  z0 : 0 < z
  le0 : 0 < le
  ri0 : le < ri
  hi0 : lo < hi
def sQ (c L x y : Int) : Int := c * x + L * y
def tQ (c L z x y : Int) : Int := c * L * x - L * L * y + c * c * z
def rmQ (c L z ri lo hi : Int) : Prop := 0 ≤ c * ri + L * hi ∧ L * L * lo ≤ c * (L * ri + c * z)
section
variable {c L z le ri lo hi : Int}
theorem quad_in (h : SdQ c L z le ri lo hi) : ∀ p ∈ quadQ le ri lo hi, InQ le ri lo hi p := by
  have := h.ri0
  have := h.hi0
  intro p hp
  unfold quadQ at hp
  simp only [List.mem_cons, List.not_mem_nil, or_false] at hp
  rcases hp with rfl | rfl | rfl | rfl <;> exact ⟨by simp, by simp; try omega, by simp; try omega, by simp; try omega, by simp; try omega⟩
theorem ring_in (h : SdQ c L z le ri lo hi) : ∀ p ∈ ringQ c L z le ri lo hi, InQ le ri lo hi p := cut_in (cut_in (quad_in h))
theorem ring_s : ∀ p ∈ ringQ c L z le ri lo hi, 0 ≤ dotQ c L 0 p := cut_keep cut_pos
theorem ring_t : ∀ p ∈ ringQ c L z le ri lo hi, 0 ≤ dotQ (c * L) (0 - L * L) (c * c * z) p := cut_pos
/-- nothing where the cell is not met -/
theorem ring_met (h : SdQ c L z le ri lo hi) {p : V3} (hp : p ∈ ringQ c L z le ri lo hi) : rmQ c L z ri lo hi := by
  obtain ⟨i1, i2, i3, i4, i5⟩ := ring_in h p hp
  have hs := ring_s p hp
  have ht := ring_t p hp
  have c0 := h.c0
  have l0 := h.l0
  have z0 := h.z0
  obtain ⟨X, Y, W⟩ := p
  simp only [dotQ] at *
  have a1 := Int.mul_le_mul_of_nonneg_left i3 (Int.le_of_lt c0)
  have a2 := Int.mul_le_mul_of_nonneg_left i5 (Int.le_of_lt l0)
  have a3 := Int.mul_le_mul_of_nonneg_left i3 (Int.le_of_lt (Int.mul_pos c0 l0))
  have a4 := Int.mul_le_mul_of_nonneg_left i4 (Int.le_of_lt (Int.mul_pos l0 l0))
  refine ⟨?_, ?_⟩
  · refine Int.le_of_mul_le_mul_left (a := W) ?_ i1
    grind
  · refine Int.le_of_mul_le_mul_left (a := W) ?_ i1
    grind
/-- a corner that the first line leaves, and that the second leaves -/
theorem ring_corner {x y : Int} (hp : (x, y, 1) ∈ quadQ le ri lo hi) (hs : 0 ≤ c * x + L * y) (ht : L * L * y ≤ c * L * x + c * c * z) : (x, y, 1) ∈ ringQ c L z le ri lo hi := by
  refine cut_mem (cut_mem hp ?_) ?_
  · simp only [dotQ]; grind
  · simp only [dotQ]; grind
/-- a place of the first ring on the first line stays -/
theorem ring_keep (h : SdQ c L z le ri lo hi) {p : V3} (hp : p ∈ cutF c L 0 (quadQ le ri lo hi)) (hs : dotQ c L 0 p = 0) : p ∈ ringQ c L z le ri lo hi := by
  refine cut_mem hp ?_
  obtain ⟨i1, i2, i3, i4, i5⟩ := cut_in (quad_in h) p hp
  have c0 := h.c0
  have l0 := h.l0
  have z0 := h.z0
  have e0 := h.le0
  obtain ⟨X, Y, W⟩ := p
  simp only [dotQ] at *
  have a1 := Int.mul_pos e0 i1
  have a2 : 0 < X := by omega
  have a3 := Int.mul_pos (Int.mul_pos c0 l0) a2
  have a4 := Int.mul_pos (Int.mul_pos (Int.mul_pos c0 c0) z0) i1
  have e : L * (c * X + L * Y + 0 * W) = 0 := by rw [hs]; simp
  grind
/-- where the first corner is cut off there is a place on the first line -/
theorem ring_s0 (h : SdQ c L z le ri lo hi) (hm : rmQ c L z ri lo hi) (hA : c * le + L * lo < 0) : ∃ p ∈ ringQ c L z le ri lo hi, dotQ c L 0 p = 0 := by
  obtain ⟨m1, m2⟩ := hm
  by_cases hB : 0 < c * ri + L * lo
  · have hc : crQ (dotQ c L 0 (le, lo, 1)) (dotQ c L 0 (ri, lo, 1)) = true := by
      unfold crQ
      simp only [Bool.or_eq_true, Bool.and_eq_true, decide_eq_true_eq]
      simp only [dotQ]
      omega
    exact ⟨_, ring_keep h (cut_adj (X := []) hc) (mix_dot hc), mix_dot hc⟩
  by_cases hB0 : c * ri + L * lo = 0
  · have e : dotQ c L 0 (ri, lo, 1) = 0 := by simp only [dotQ]; omega
    exact ⟨(ri, lo, 1), ring_keep h (cut_mem (by unfold quadQ; simp) (by omega)) e, e⟩
  by_cases hC0 : c * ri + L * hi = 0
  · have e : dotQ c L 0 (ri, hi, 1) = 0 := by simp only [dotQ]; omega
    exact ⟨(ri, hi, 1), ring_keep h (cut_mem (by unfold quadQ; simp) (by omega)) e, e⟩
  have hc : crQ (dotQ c L 0 (ri, lo, 1)) (dotQ c L 0 (ri, hi, 1)) = true := by
    unfold crQ
    simp only [Bool.or_eq_true, Bool.and_eq_true, decide_eq_true_eq]
    simp only [dotQ]
    omega
  exact ⟨_, ring_keep h (cut_adj (X := [(le, lo, 1)]) hc) (mix_dot hc), mix_dot hc⟩
theorem ring_ne (h : SdQ c L z le ri lo hi) (hm : rmQ c L z ri lo hi) : ringQ c L z le ri lo hi ≠ [] := by
  intro e
  by_cases hA : c * le + L * lo < 0
  · obtain ⟨p, hp, _⟩ := ring_s0 h hm hA
    rw [e] at hp
    cases hp
  · have a1 := Int.mul_lt_mul_of_pos_left h.ri0 h.c0
    have hp : (ri, lo, 1) ∈ ringQ c L z le ri lo hi := ring_corner (by unfold quadQ; simp) (by omega) (by have := hm.2; grind)
    rw [e] at hp
    cases hp
/-- the first ring ends as it did: behind the corner amid -/
theorem ring1_cd (hC : 0 ≤ c * ri + L * hi) (hD : 0 ≤ c * le + L * hi) : ∃ X, cutF c L 0 (quadQ le ri lo hi) = X ++ [(ri, hi, 1), (le, hi, 1)] := by
  have hc : crQ (dotQ c L 0 (ri, hi, 1)) (dotQ c L 0 (le, hi, 1)) = false := by
    unfold crQ
    rw [Bool.eq_false_iff]
    simp only [ne_eq, Bool.or_eq_true, Bool.and_eq_true, decide_eq_true_eq]
    simp only [dotQ]
    omega
  refine ⟨cutP c L 0 (quadQ le ri lo hi) 2 ++ (if crQ (dotQ c L 0 (ri, lo, 1)) (dotQ c L 0 (ri, hi, 1)) then [mixQ (absQ (dotQ c L 0 (ri, lo, 1))) (absQ (dotQ c L 0 (ri, hi, 1))) (ri, lo, 1) (ri, hi, 1)] else []), ?_⟩
  show cutP c L 0 (quadQ le ri lo hi) 4 = _
  rw [cutP_succ, cutP_succ]
  show _ ++ cutS c L 0 (ri, lo, 1) (ri, hi, 1) ++ cutS c L 0 (ri, hi, 1) (le, hi, 1) = _
  have e1 : cutS c L 0 (ri, hi, 1) (le, hi, 1) = [(le, hi, 1)] := by
    unfold cutS
    rw [hc, if_pos (show 0 ≤ dotQ c L 0 (le, hi, 1) by simp only [dotQ]; omega)]
    rfl
  rw [e1]
  unfold cutS
  rw [if_pos (show 0 ≤ dotQ c L 0 (ri, hi, 1) by simp only [dotQ]; omega)]
  simp
theorem ring1_bc (hB : 0 ≤ c * ri + L * lo) (hC : 0 ≤ c * ri + L * hi) : ∃ X Y, cutF c L 0 (quadQ le ri lo hi) = X ++ (ri, lo, 1) :: (ri, hi, 1) :: Y := by
  have hc : crQ (dotQ c L 0 (ri, lo, 1)) (dotQ c L 0 (ri, hi, 1)) = false := by
    unfold crQ
    rw [Bool.eq_false_iff]
    simp only [ne_eq, Bool.or_eq_true, Bool.and_eq_true, decide_eq_true_eq]
    simp only [dotQ]
    omega
  refine ⟨cutP c L 0 (quadQ le ri lo hi) 1 ++ (if crQ (dotQ c L 0 (le, lo, 1)) (dotQ c L 0 (ri, lo, 1)) then [mixQ (absQ (dotQ c L 0 (le, lo, 1))) (absQ (dotQ c L 0 (ri, lo, 1))) (le, lo, 1) (ri, lo, 1)] else []), cutS c L 0 (ri, hi, 1) (le, hi, 1), ?_⟩
  show cutP c L 0 (quadQ le ri lo hi) 4 = _
  rw [cutP_succ, cutP_succ, cutP_succ]
  show _ ++ cutS c L 0 (le, lo, 1) (ri, lo, 1) ++ cutS c L 0 (ri, lo, 1) (ri, hi, 1) ++ cutS c L 0 (ri, hi, 1) (le, hi, 1) = _
  have e1 : cutS c L 0 (ri, lo, 1) (ri, hi, 1) = [(ri, hi, 1)] := by
    unfold cutS
    rw [hc, if_pos (show 0 ≤ dotQ c L 0 (ri, hi, 1) by simp only [dotQ]; omega)]
    rfl
  rw [e1]
  have e2 : cutS c L 0 (le, lo, 1) (ri, lo, 1) = (if crQ (dotQ c L 0 (le, lo, 1)) (dotQ c L 0 (ri, lo, 1)) then [mixQ (absQ (dotQ c L 0 (le, lo, 1))) (absQ (dotQ c L 0 (ri, lo, 1))) (le, lo, 1) (ri, lo, 1)] else []) ++ [(ri, lo, 1)] := by
    unfold cutS
    rw [if_pos (show 0 ≤ dotQ c L 0 (ri, lo, 1) by simp only [dotQ]; omega)]
  rw [e2]
  simp
theorem ring1_mc (hB : c * ri + L * lo < 0) (hC : 0 < c * ri + L * hi) : ∃ X Y q, dotQ c L 0 q = 0 ∧ cutF c L 0 (quadQ le ri lo hi) = X ++ q :: (ri, hi, 1) :: Y := by
  have hc : crQ (dotQ c L 0 (ri, lo, 1)) (dotQ c L 0 (ri, hi, 1)) = true := by
    unfold crQ
    simp only [Bool.or_eq_true, Bool.and_eq_true, decide_eq_true_eq]
    simp only [dotQ]
    omega
  refine ⟨cutP c L 0 (quadQ le ri lo hi) 2, cutS c L 0 (ri, hi, 1) (le, hi, 1), _, mix_dot hc, ?_⟩
  show cutP c L 0 (quadQ le ri lo hi) 4 = _
  rw [cutP_succ, cutP_succ]
  show _ ++ cutS c L 0 (ri, lo, 1) (ri, hi, 1) ++ cutS c L 0 (ri, hi, 1) (le, hi, 1) = _
  have e1 : cutS c L 0 (ri, lo, 1) (ri, hi, 1) = [mixQ (absQ (dotQ c L 0 (ri, lo, 1))) (absQ (dotQ c L 0 (ri, hi, 1))) (ri, lo, 1) (ri, hi, 1), (ri, hi, 1)] := by
    unfold cutS
    rw [hc, if_pos (show 0 ≤ dotQ c L 0 (ri, hi, 1) by simp only [dotQ]; omega)]
    rfl
  rw [e1]
  simp
/-- where the last corner is cut off there is a place on the second line -/
theorem ring_t0 (h : SdQ c L z le ri lo hi) (hm : rmQ c L z ri lo hi) (hD : c * L * le + c * c * z < L * L * hi) : ∃ p ∈ ringQ c L z le ri lo hi, dotQ (c * L) (0 - L * L) (c * c * z) p = 0 := by
  obtain ⟨m1, m2⟩ := hm
  have m2 : L * L * lo ≤ c * L * ri + c * c * z := by grind
  have c0 := h.c0
  have l0 := h.l0
  have z0 := h.z0
  have e0 := h.le0
  have r0 := h.ri0
  have cl := Int.mul_pos c0 l0
  have a1 := Int.mul_pos cl e0
  have a2 := Int.mul_pos (Int.mul_pos c0 c0) z0
  have hi0 : 0 < hi := by
    rcases Int.lt_or_le 0 hi with hh | hh
    · exact hh
    · have := Int.mul_le_mul_of_nonneg_left hh (Int.le_of_lt (Int.mul_pos l0 l0))
      omega
  have a3 := Int.mul_pos l0 hi0
  have a4 := Int.mul_pos c0 e0
  have a5 := Int.mul_lt_mul_of_pos_left r0 c0
  have hCs : 0 < c * ri + L * hi := by omega
  have dD : dotQ (c * L) (0 - L * L) (c * c * z) (le, hi, 1) = c * L * le + c * c * z - L * L * hi := by unfold dotQ; grind
  have dC : dotQ (c * L) (0 - L * L) (c * c * z) (ri, hi, 1) = c * L * ri + c * c * z - L * L * hi := by unfold dotQ; grind
  have dB : dotQ (c * L) (0 - L * L) (c * c * z) (ri, lo, 1) = c * L * ri + c * c * z - L * L * lo := by unfold dotQ; grind
  by_cases hC0 : c * L * ri + c * c * z = L * L * hi
  · refine ⟨(ri, hi, 1), ring_corner (by unfold quadQ; simp) (by omega) (by omega), by omega⟩
  by_cases hC : L * L * hi < c * L * ri + c * c * z
  · obtain ⟨X, eX⟩ := ring1_cd (c := c) (L := L) (le := le) (ri := ri) (lo := lo) (hi := hi) (by omega) (by omega)
    have hc : crQ (dotQ (c * L) (0 - L * L) (c * c * z) (ri, hi, 1)) (dotQ (c * L) (0 - L * L) (c * c * z) (le, hi, 1)) = true := by
      unfold crQ
      simp only [Bool.or_eq_true, Bool.and_eq_true, decide_eq_true_eq]
      omega
    refine ⟨_, ?_, mix_dot hc⟩
    unfold ringQ
    rw [eX]
    exact cut_adj hc
  by_cases hB : 0 ≤ c * ri + L * lo
  · by_cases hB0 : L * L * lo = c * L * ri + c * c * z
    · exact ⟨(ri, lo, 1), ring_corner (by unfold quadQ; simp) hB (by omega), by omega⟩
    obtain ⟨X, Y, eX⟩ := ring1_bc (c := c) (L := L) (le := le) (ri := ri) (lo := lo) (hi := hi) hB (by omega)
    have hc : crQ (dotQ (c * L) (0 - L * L) (c * c * z) (ri, lo, 1)) (dotQ (c * L) (0 - L * L) (c * c * z) (ri, hi, 1)) = true := by
      unfold crQ
      simp only [Bool.or_eq_true, Bool.and_eq_true, decide_eq_true_eq]
      omega
    refine ⟨_, ?_, mix_dot hc⟩
    unfold ringQ
    rw [eX]
    exact cut_adj hc
  · obtain ⟨X, Y, q, hq, eX⟩ := ring1_mc (c := c) (L := L) (le := le) (ri := ri) (lo := lo) (hi := hi) (by omega) hCs
    have hqm : q ∈ cutF c L 0 (quadQ le ri lo hi) := by rw [eX]; simp
    obtain ⟨i1, i2, i3, i4, i5⟩ := cut_in (quad_in h) q hqm
    have b1 := Int.mul_pos e0 i1
    have b2 : 0 < q.1 := by omega
    have b3 := Int.mul_pos cl b2
    have b4 := Int.mul_pos a2 i1
    have hc : crQ (dotQ (c * L) (0 - L * L) (c * c * z) q) (dotQ (c * L) (0 - L * L) (c * c * z) (ri, hi, 1)) = true := by
      unfold crQ
      simp only [Bool.or_eq_true, Bool.and_eq_true, decide_eq_true_eq]
      refine .inr ⟨by omega, ?_⟩
      have e : L * dotQ c L 0 q = 0 := by rw [hq]; simp
      unfold dotQ at e ⊢
      grind
    refine ⟨_, ?_, mix_dot hc⟩
    unfold ringQ
    rw [eX]
    exact cut_adj hc
end
/-! ### the figures good for roots: by the ring, and by the closed forms -/
def upQ (c L z le ri hi u : Int) : Prop := L * L * hi ≤ c * L * le + c * c * z ∧ (u ≤ 0 → L * hi ≤ u * ri) ∧ (0 < u → L * hi ≤ u * le)
def loQ (c L z le ri lo l : Int) : Prop := (0 ≤ l → L * l * ri + l * l * z ≤ L * L * lo) ∧ (l < 0 → 0 ≤ c * le + L * lo ∧ L * l * le + l * l * z ≤ L * L * lo)
section
variable {c L z le ri lo hi u l : Int}
theorem up_ring (h : SdQ c L z le ri lo hi) (hm : rmQ c L z ri lo hi) (hu : u < c) : (∀ p ∈ ringQ c L z le ri lo hi, L * p.2.1 ≤ u * p.1) ↔ upQ c L z le ri hi u := by
  have c0 := h.c0
  have l0 := h.l0
  have z0 := h.z0
  have e0 := h.le0
  have r0 := h.ri0
  have m1 := hm.1
  constructor
  · intro hp
    have hD : L * L * hi ≤ c * L * le + c * c * z := by
      rcases Int.lt_or_le (c * L * le + c * c * z) (L * L * hi) with hD | hD
      · obtain ⟨p, hp1, hp2⟩ := ring_t0 h hm hD
        obtain ⟨i1, i2, i3, i4, i5⟩ := ring_in h p hp1
        have hh := hp p hp1
        obtain ⟨X, Y, W⟩ := p
        simp only [dotQ] at *
        have b1 := Int.mul_pos e0 i1
        have b2 : 0 < X := by omega
        have b3 := Int.mul_lt_mul_of_pos_right hu (Int.mul_pos l0 b2)
        have b4 := Int.mul_pos (Int.mul_pos (Int.mul_pos c0 c0) z0) i1
        have b5 := Int.mul_le_mul_of_nonneg_left hh (Int.le_of_lt l0)
        grind
      · exact hD
    have b1 := Int.mul_lt_mul_of_pos_left r0 (Int.mul_pos c0 l0)
    refine ⟨hD, fun u0 => ?_, fun u0 => ?_⟩
    · have hc : ((ri, hi, 1) : V3) ∈ ringQ c L z le ri lo hi := ring_corner (by unfold quadQ; simp) (by omega) (by omega)
      exact hp _ hc
    · rcases Int.lt_or_le (c * le + L * hi) 0 with hs | hs
      · have := Int.mul_pos u0 e0
        have := Int.mul_pos c0 e0
        omega
      · have hc : ((le, hi, 1) : V3) ∈ ringQ c L z le ri lo hi := ring_corner (by unfold quadQ; simp) (by omega) (by omega)
        exact hp _ hc
  · rintro ⟨_, h1, h2⟩ p hp
    obtain ⟨i1, i2, i3, i4, i5⟩ := ring_in h p hp
    obtain ⟨X, Y, W⟩ := p
    simp only at *
    have b1 := Int.mul_le_mul_of_nonneg_left i5 (Int.le_of_lt l0)
    rcases Int.lt_or_le 0 u with u0 | u0
    · have b2 := Int.mul_le_mul_of_nonneg_left i2 (Int.le_of_lt u0)
      have b3 := Int.mul_le_mul_of_nonneg_right (h2 u0) (Int.le_of_lt i1)
      grind
    · have b2 := Int.mul_le_mul_of_nonneg_left i3 (show 0 ≤ -u by omega)
      have b3 := Int.mul_le_mul_of_nonneg_right (h1 u0) (Int.le_of_lt i1)
      grind
theorem lo_ring (h : SdQ c L z le ri lo hi) (hm : rmQ c L z ri lo hi) (hl : -c < l) : (∀ p ∈ ringQ c L z le ri lo hi, L * l * p.1 + l * l * z * p.2.2 ≤ L * L * p.2.1) ↔ loQ c L z le ri lo l := by
  have c0 := h.c0
  have l0 := h.l0
  have z0 := h.z0
  have e0 := h.le0
  have r0 := h.ri0
  have m1 := hm.1
  have m2 : L * L * lo ≤ c * L * ri + c * c * z := by have := hm.2; grind
  have hcl : 0 < c + l := by omega
  have ll : 0 ≤ l * l := by
    rcases Int.lt_or_le l 0 with z | z
    · exact Int.le_of_lt (Int.mul_pos_of_neg_of_neg z z)
    · exact Int.mul_nonneg z z
  constructor
  · intro hp
    have hA : 0 ≤ c * le + L * lo := by
      rcases Int.lt_or_le (c * le + L * lo) 0 with hA | hA
      · obtain ⟨p, hp1, hp2⟩ := ring_s0 h hm hA
        obtain ⟨i1, i2, i3, i4, i5⟩ := ring_in h p hp1
        have hh := hp p hp1
        obtain ⟨X, Y, W⟩ := p
        simp only [dotQ] at *
        have b1 := Int.mul_pos e0 i1
        have b2 : 0 < X := by omega
        have b3 := Int.mul_pos hcl (Int.mul_pos l0 b2)
        have b4 := Int.mul_nonneg (Int.mul_nonneg ll (Int.le_of_lt z0)) (Int.le_of_lt i1)
        have e : L * (c * X + L * Y + 0 * W) = 0 := by rw [hp2]; simp
        grind
      · exact hA
    have b1 := Int.mul_lt_mul_of_pos_left r0 c0
    refine ⟨fun u0 => ?_, fun u0 => ⟨hA, ?_⟩⟩
    · have hc : ((ri, lo, 1) : V3) ∈ ringQ c L z le ri lo hi := ring_corner (by unfold quadQ; simp) (by omega) (by omega)
      have := hp _ hc
      simp only [Int.mul_one] at this
      exact this
    · rcases Int.lt_or_le (c * L * le + c * c * z) (L * L * lo) with ht | ht
      · have b2 := Int.mul_pos hcl (Int.mul_pos l0 e0)
        have b3 : l * l * z ≤ c * c * z := by
          refine Int.mul_le_mul_of_nonneg_right ?_ (Int.le_of_lt z0)
          have := Int.mul_pos hcl (show 0 < c - l by omega)
          grind
        have b4 := Int.mul_pos (Int.mul_pos c0 l0) e0
        have b5 : L * l * le < 0 := by
          have := Int.mul_pos (Int.mul_pos l0 (show 0 < -l by omega)) e0
          grind
        omega
      · have hc : ((le, lo, 1) : V3) ∈ ringQ c L z le ri lo hi := ring_corner (by unfold quadQ; simp) (by omega) (by omega)
        have := hp _ hc
        simp only [Int.mul_one] at this
        exact this
  · rintro ⟨h1, h2⟩ p hp
    obtain ⟨i1, i2, i3, i4, i5⟩ := ring_in h p hp
    obtain ⟨X, Y, W⟩ := p
    simp only at *
    have b1 := Int.mul_le_mul_of_nonneg_left i4 (Int.le_of_lt (Int.mul_pos l0 l0))
    rcases Int.lt_or_le l 0 with u0 | u0
    · have b2 := Int.mul_le_mul_of_nonneg_left i2 (Int.mul_nonneg (Int.le_of_lt l0) (show 0 ≤ -l by omega))
      have b3 := Int.mul_le_mul_of_nonneg_right (h2 u0).2 (Int.le_of_lt i1)
      grind
    · have b2 := Int.mul_le_mul_of_nonneg_left i3 (Int.mul_nonneg (Int.le_of_lt l0) u0)
      have b3 := Int.mul_le_mul_of_nonneg_right (h1 u0) (Int.le_of_lt i1)
      grind
/-- the program's tests -/
def uhB (c L z le ri hi u : Int) : Bool :=
  if L * hi ≤ u * ri ∧ u ≤ 0 then true
  else if u ≤ 0 then decide (c * L * ri + c * c * z ≤ u * L * ri)
  else if c * L * le + c * c * z ≥ L * L * hi then decide (L * hi ≤ u * le)
  else if c * L * ri + c * c * z ≤ L * L * hi then decide (c * L * ri + c * c * z ≤ u * L * ri)
  else decide (L * L * hi * c ≤ u * (L * L * hi - c * c * z))
def lhB (c L z le ri lo l : Int) : Bool :=
  if l ≥ 0 then decide (L * L * lo ≥ L * l * ri + l * l * z)
  else if L * lo ≥ -c * le then decide (L * L * lo ≥ L * l * le + l * l * z)
  else if L * lo ≤ -c * ri then decide (-c * L * ri ≥ L * l * ri + l * l * z)
  else decide (L * L * lo * c ≥ -L * L * l * lo + l * l * z * c)
theorem uh_up (h : SdQ c L z le ri lo hi) (hu : u < c) : uhB c L z le ri hi u = true ↔ upQ c L z le ri hi u := by
  have c0 := h.c0
  have l0 := h.l0
  have z0 := h.z0
  have e0 := h.le0
  have r0 := h.ri0
  have r1 : 0 < ri := by omega
  have k1 := Int.mul_pos (Int.mul_pos c0 l0) r1
  have k2 := Int.mul_pos (Int.mul_pos c0 c0) z0
  have k3 := Int.mul_pos (Int.mul_pos c0 l0) e0
  have k4 := Int.mul_lt_mul_of_pos_left r0 (Int.mul_pos c0 l0)
  unfold uhB upQ
  split
  · next hh =>
    refine ⟨fun _ => ⟨?_, fun _ => hh.1, fun _ => by omega⟩, fun _ => rfl⟩
    have b1 := Int.mul_le_mul_of_nonneg_left hh.1 (Int.le_of_lt l0)
    have b2 := Int.mul_nonneg (Int.mul_nonneg (Int.le_of_lt l0) (show 0 ≤ -u by omega)) (Int.le_of_lt r1)
    grind
  · next hh =>
    split
    · next u0 =>
      have b2 := Int.mul_nonneg (Int.mul_nonneg (show 0 ≤ -u by omega) (Int.le_of_lt l0)) (Int.le_of_lt r1)
      have b3 : u * L * ri ≤ 0 := by grind
      rw [decide_eq_true_eq]
      refine ⟨fun z => by omega, fun z => absurd ⟨z.2.1 u0, u0⟩ hh⟩
    · next u0 =>
      have b1 : 0 < c - u := by omega
      have b2 := Int.mul_pos (Int.mul_pos b1 l0) r1
      have b3 : u * L * ri < c * L * ri := by grind
      split
      · next hD =>
        rw [decide_eq_true_eq]
        exact ⟨fun z => ⟨by omega, fun _ => by omega, fun _ => z⟩, fun z => z.2.2 (by omega)⟩
      · next hD =>
        split
        · rw [decide_eq_true_eq]
          exact ⟨fun z => by omega, fun z => absurd z.1 (by omega)⟩
        · rw [decide_eq_true_eq]
          refine ⟨fun zz => ?_, fun z => absurd z.1 (by omega)⟩
          have b4 : 0 < L * L * hi := by omega
          have b5 := Int.mul_pos b1 b4
          have b6 := Int.mul_pos (show 0 < u by omega) k2
          grind
theorem lh_lo (h : SdQ c L z le ri lo hi) (hl : -c < l) : lhB c L z le ri lo l = true ↔ loQ c L z le ri lo l := by
  have c0 := h.c0
  have l0 := h.l0
  have z0 := h.z0
  have e0 := h.le0
  have r0 := h.ri0
  have r1 : 0 < ri := by omega
  have hcl : 0 < c + l := by omega
  have ll : 0 ≤ l * l := by
    rcases Int.lt_or_le l 0 with z | z
    · exact Int.le_of_lt (Int.mul_pos_of_neg_of_neg z z)
    · exact Int.mul_nonneg z z
  have lz := Int.mul_nonneg ll (Int.le_of_lt z0)
  have k1 := Int.mul_pos c0 r1
  have k2 := Int.mul_lt_mul_of_pos_left r0 c0
  unfold lhB loQ
  split
  · next u0 =>
    rw [decide_eq_true_eq]
    exact ⟨fun z => ⟨fun _ => z, fun z => by omega⟩, fun z => z.1 u0⟩
  · next u0 =>
    have e1 : -c * le = -(c * le) := Int.neg_mul ..
    have e2 : -c * ri = -(c * ri) := Int.neg_mul ..
    split
    · next hA =>
      rw [decide_eq_true_eq]
      exact ⟨fun z => ⟨fun z => by omega, fun _ => ⟨by omega, z⟩⟩, fun z => (z.2 (by omega)).2⟩
    · next hA =>
      split
      · rw [decide_eq_true_eq]
        refine ⟨fun zz => ?_, fun z => absurd (z.2 (by omega)).1 (by omega)⟩
        have b1 := Int.mul_pos hcl (Int.mul_pos l0 r1)
        grind
      · rw [decide_eq_true_eq]
        refine ⟨fun zz => ?_, fun z => absurd (z.2 (by omega)).1 (by omega)⟩
        have b0 := Int.mul_pos c0 e0
        have b1 : L * lo < 0 := by omega
        have b2 := Int.mul_pos (Int.mul_pos hcl l0) (show 0 < -(L * lo) by omega)
        have b3 := Int.mul_nonneg lz (Int.le_of_lt c0)
        grind
end
end S
set_option Elab.async false
set_option linter.all false
set_option maxRecDepth 100000
set_option maxHeartbeats 1000000
namespace S
open PySem L2 Z
local macro_rules | `(tactic| walk_at "z") => `(tactic| try simp (config := { dsimp := false }) only [↓run_nx, ↓run_no, ↓run_bk, ↓run_ct, ↓run_seq, ↓run_set, ↓run_drop, ↓run_ret, ↓run_asg, ↓run_app, ↓run_put, ↓run_aug, ↓run_frz, ↓run_kill, ↓xr_if, ↓ev_lc, ↓ev_yes, ↓run_ext, ↓ev_enum, ↓run_asgT, ↓run_retM, ↓run_fld, ↓ev_fld, ↓ev_at, ↓xv_callG, ↓xv_tupG, ↓xv_meth, ↓xv_make, ↓ev_move, so_tof, so_nonO, so_fillN, so_fillE, so_fillS, bkG0, bkGE, bkGF, bkGT, stD0, stDC, so_dof, so_noFd, fdN, fdC, fdE, fdO, ptN, ptC, ptE, ptO, nm_ahead_end, nm_ahead_ended, nm_ahead_figures, nm_ahead_is_figure, nm_ahead_kind, nm_ahead_last, nm_ahead_parted, nm_ahead_put, nm_ahead_told, nm_ask_cell_kind, nm_ask_cell_looks, nm_ask_cell_sight, nm_ask_cell_table, nm_base_below, nm_base_held, nm_base_put, nm_base_under, nm_base_upper, nm_begin_done, nm_begin_figures, nm_begin_great, nm_begin_kind, nm_begin_left, nm_begin_looks, nm_begin_numbers, nm_begin_rows, nm_begin_seen, nm_begin_stand, nm_begin_wide, nm_begin_works, nm_begin_rows_done, nm_begin_rows_kind, nm_begin_rows_looks, nm_begin_rows_rows, nm_begin_rows_seen, nm_begin_rows_works, nm_below_base, nm_below_under, nm_below_upper, nm_deeds_done, nm_deeds_kind, nm_deeds_looks, nm_deeds_rows, nm_deeds_seen, nm_deeds_works, nm_divided_kind, nm_divided_looks, nm_divided_sight, nm_divided_table, nm_done_begin, nm_done_begin_rows, nm_done_deeds, nm_done_entries, nm_done_go, nm_done_kind, nm_done_looked, nm_done_looks, nm_done_put, nm_done_rest, nm_done_row, nm_done_rows, nm_done_seen, nm_done_work, nm_done_works, nm_done_wrong, nm_end_ahead, nm_end_ended, nm_end_figures, nm_end_kind, nm_end_last, nm_ended_ahead, nm_ended_end, nm_ended_figures, nm_ended_is_figure, nm_ended_kind, nm_ended_last, nm_ended_parted, nm_ended_put, nm_ended_told, nm_entered_kind, nm_entered_looks, nm_entered_sight, nm_entered_table, nm_entries_done, nm_entries_kind, nm_entries_looks, nm_entries_rows, nm_entries_seen, nm_entries_works, nm_figures_ahead, nm_figures_begin, nm_figures_end, nm_figures_ended, nm_figures_great, nm_figures_is_figure, nm_figures_kind, nm_figures_last, nm_figures_left, nm_figures_looks, nm_figures_numbers, nm_figures_parted, nm_figures_put, nm_figures_rest, nm_figures_stand, nm_figures_told, nm_figures_tried, nm_figures_wide, nm_go_done, nm_go_kind, nm_go_looks, nm_go_rows, nm_go_seen, nm_go_works, nm_great_begin, nm_great_figures, nm_great_kind, nm_great_left, nm_great_looks, nm_great_numbers, nm_great_rest, nm_great_stand, nm_great_tried, nm_great_wide, nm_held_base, nm_held_under, nm_held_upper, nm_is_figure_ahead, nm_is_figure_ended, nm_is_figure_figures, nm_is_figure_kind, nm_is_figure_last, nm_kind_ahead, nm_kind_ask_cell, nm_kind_begin, nm_kind_begin_rows, nm_kind_deeds, nm_kind_divided, nm_kind_done, nm_kind_end, nm_kind_ended, nm_kind_entered, nm_kind_entries, nm_kind_figures, nm_kind_go, nm_kind_great, nm_kind_is_figure, nm_kind_last, nm_kind_left, nm_kind_looked, nm_kind_looks, nm_kind_numbers, nm_kind_parted, nm_kind_put, nm_kind_put_all, nm_kind_rest, nm_kind_row, nm_kind_rows, nm_kind_say, nm_kind_seen, nm_kind_sight, nm_kind_stand, nm_kind_table, nm_kind_told, nm_kind_tried, nm_kind_turned, nm_kind_wide, nm_kind_work, nm_kind_works, nm_kind_wrong, nm_last_ahead, nm_last_end, nm_last_ended, nm_last_figures, nm_last_is_figure, nm_last_kind, nm_last_parted, nm_last_put, nm_last_told, nm_left_begin, nm_left_figures, nm_left_great, nm_left_kind, nm_left_looks, nm_left_numbers, nm_left_rest, nm_left_stand, nm_left_tried, nm_left_wide, nm_look_top, nm_looked_done, nm_looked_kind, nm_looked_looks, nm_looked_rows, nm_looked_seen, nm_looked_sight, nm_looked_table, nm_looked_works, nm_looks_ask_cell, nm_looks_begin, nm_looks_begin_rows, nm_looks_deeds, nm_looks_divided, nm_looks_done, nm_looks_entered, nm_looks_entries, nm_looks_figures, nm_looks_go, nm_looks_great, nm_looks_kind, nm_looks_left, nm_looks_looked, nm_looks_numbers, nm_looks_put, nm_looks_put_all, nm_looks_rest, nm_looks_row, nm_looks_rows, nm_looks_say, nm_looks_seen, nm_looks_sight, nm_looks_stand, nm_looks_table, nm_looks_told, nm_looks_tried, nm_looks_turned, nm_looks_wide, nm_looks_work, nm_looks_works, nm_looks_wrong, nm_numbers_begin, nm_numbers_figures, nm_numbers_great, nm_numbers_kind, nm_numbers_left, nm_numbers_looks, nm_numbers_rest, nm_numbers_stand, nm_numbers_tried, nm_numbers_wide, nm_parted_ahead, nm_parted_ended, nm_parted_figures, nm_parted_kind, nm_parted_last, nm_put_ahead, nm_put_base, nm_put_done, nm_put_ended, nm_put_figures, nm_put_kind, nm_put_last, nm_put_looks, nm_put_rows, nm_put_seen, nm_put_under, nm_put_upper, nm_put_works, nm_put_all_kind, nm_put_all_looks, nm_put_all_sight, nm_put_all_table, nm_rest_done, nm_rest_figures, nm_rest_great, nm_rest_kind, nm_rest_left, nm_rest_looks, nm_rest_numbers, nm_rest_rows, nm_rest_seen, nm_rest_stand, nm_rest_wide, nm_rest_works, nm_row_done, nm_row_kind, nm_row_looks, nm_row_rows, nm_row_seen, nm_row_works, nm_rows_begin, nm_rows_begin_rows, nm_rows_deeds, nm_rows_done, nm_rows_entries, nm_rows_go, nm_rows_kind, nm_rows_looked, nm_rows_looks, nm_rows_put, nm_rows_rest, nm_rows_row, nm_rows_seen, nm_rows_work, nm_rows_works, nm_rows_wrong, nm_say_kind, nm_say_looks, nm_say_sight, nm_say_table, nm_seen_begin, nm_seen_begin_rows, nm_seen_deeds, nm_seen_done, nm_seen_entries, nm_seen_go, nm_seen_kind, nm_seen_looked, nm_seen_looks, nm_seen_put, nm_seen_rest, nm_seen_row, nm_seen_rows, nm_seen_work, nm_seen_works, nm_seen_wrong, nm_sight_ask_cell, nm_sight_divided, nm_sight_entered, nm_sight_kind, nm_sight_looked, nm_sight_looks, nm_sight_put_all, nm_sight_say, nm_sight_table, nm_sight_told, nm_sight_turned, nm_stand_begin, nm_stand_figures, nm_stand_great, nm_stand_kind, nm_stand_left, nm_stand_looks, nm_stand_numbers, nm_stand_rest, nm_stand_tried, nm_stand_wide, nm_table_ask_cell, nm_table_divided, nm_table_entered, nm_table_kind, nm_table_looked, nm_table_looks, nm_table_put_all, nm_table_say, nm_table_sight, nm_table_told, nm_table_turned, nm_told_ahead, nm_told_ended, nm_told_figures, nm_told_kind, nm_told_last, nm_told_looks, nm_told_sight, nm_told_table, nm_top_look, nm_tried_figures, nm_tried_great, nm_tried_kind, nm_tried_left, nm_tried_looks, nm_tried_numbers, nm_tried_stand, nm_tried_wide, nm_turned_kind, nm_turned_looks, nm_turned_sight, nm_turned_table, nm_under_base, nm_under_below, nm_under_held, nm_under_put, nm_under_upper, nm_upper_base, nm_upper_below, nm_upper_held, nm_upper_put, nm_upper_under, nm_wide_begin, nm_wide_figures, nm_wide_great, nm_wide_kind, nm_wide_left, nm_wide_looks, nm_wide_numbers, nm_wide_rest, nm_wide_stand, nm_wide_tried, nm_work_done, nm_work_kind, nm_work_looks, nm_work_rows, nm_work_seen, nm_work_works, nm_works_begin, nm_works_begin_rows, nm_works_deeds, nm_works_done, nm_works_entries, nm_works_go, nm_works_kind, nm_works_looked, nm_works_looks, nm_works_put, nm_works_rest, nm_works_row, nm_works_rows, nm_works_seen, nm_works_work, nm_works_wrong, nm_wrong_done, nm_wrong_kind, nm_wrong_looks, nm_wrong_rows, nm_wrong_seen, nm_wrong_works, sz1, sz2, sz3, sz4, sz5, sz6, sz7, sz8, sz9, sz10, sz11, true_and, ↓run_putP, ↓run_appP, ↓ev_plR, ↓ev_plIx, ↓ev_fz, ↓ev_rep, ↓run_fo, ↓run_wh, ↓ev_ok, ↓ev_opt, ↓ev_var, ↓ev_C, ↓ev_V, ↓ev_slot, ↓ev_op, ↓ev_un, ↓ev_B, ↓ev_not, ↓ev_notV, ↓ev_nil, ↓ev_cons, ↓ev_nilB, ↓ev_consB, ↓ev_tup, ↓ev_lst, ↓ev_B1, ↓ev_sl, ↓ev_P0, ↓ev_P1, ↓ev_Rg1, ↓ev_Rg2, ↓ev_LstRg, ↓ev_It, ↓ev_R1, ↓ev_R2, ↓xv_and, ↓xv_or, ↓xv_andV, ↓xv_orV, ↓xv_if, ↓xv_chain, ↓xv_call, ↓xv_call1, ↓xv_callT, hdC, br_t, br_f, so_some, so_none, so_mapN, so_mapC, lks_eq, rg_z, rg_s, lk0, lkS, st0, stS, entry0, entryS, rep0, repS, res_val, res_slot, so_add, so_sub, so_addN, so_subN, so_mul, so_div, so_mod, so_pow, so_shl, so_shr, so_and, so_or, so_xor, so_lt, so_le, so_gt, so_ge, so_eqI, so_neI, so_neg, so_isN, so_notN, non_n, non_i, non_t, non_l, non_b, non_s, so_ixL, so_ixT, at0, at1, at2, at3, ix0, ix1, ix2, ixN30, ixN31, ixN32, so_tru, so_iof, so_lof, so_itL, so_itT, so_r1, so_r2, so_abs, so_max, so_min, so_intB, so_intI, ii_i, ib_i, ib_b, ii_b, it_t, it_l, il_l, il_t, so_cat, so_inL, so_inT, so_ninL, so_ninT, so_maxI, so_maxT, so_rev, so_bits, so_en, wpD0, wpDC, bk0, bkC, oat0, oatS, so_catD, so_isBl, so_notBl, so_listOfL, so_listOfT, so_listL, so_listT, so_tupL, so_tupT, mx0, mxC, fz0, fzC, flO, flN, noL_i, noL_n, noL_b, noL_s, noL_t, noLs_n, noLs_c, Bool.and_true, Bool.and_self, getP0, setP0, so_ixP0, so_getP1, so_slL, so_lenL, so_lenT, so_gN, Int.cast_ofNat_Int, so_gT, so_gL, so_gC, so_gE, Int.toNat_natCast, Int.one_mul, modC_eq, shrC_eq, powC_eq, fits0, fits1, fits2, fits3, fits4, fits5, fits6, fits7, fits8, fits9, fits10, fits11, fits12, fits13, fits14, fits15, fits16, rngC_eq, List.length_cons, List.length_nil, Nat.reduceAdd, Nat.zero_add, List.set_cons_zero, List.set_cons_succ, true_and, and_true, decide_true, decide_false, Bool.not_true, Bool.not_false, Int.reduceLT, Int.reduceSub, Int.reduceAdd, Int.reduceMul, Int.reduceNeg, Int.reduceDiv, Int.reduceMod, Int.reduceEq, Int.reduceLE, Int.reduceToNat, Int.reducePow, nab10, nab2, eq_self])
local macro_rules | `(tactic| walk_at "e") => `(tactic| (simp (config := { dsimp := false }) only [entryS, entry0, repS, rep0]; walk_at "z"))
/-! ### the law's rings, walked -/
def t3 (p : V3) : D := .tuple [.int p.1, .int p.2.1, .int p.2.2]
def Sm (B : Nat) (p : V3) : Prop := p.1.natAbs < 2 ^ B ∧ p.2.1.natAbs < 2 ^ B ∧ p.2.2.natAbs < 2 ^ B
theorem abs_add {x y : Int} {m : Nat} (hx : x.natAbs < 2 ^ m) (hy : y.natAbs < 2 ^ m) : (x + y).natAbs < 2 ^ (m + 1) := by
  rw [Nat.pow_succ]
  omega
theorem abs_p2 {n k : Nat} (h : n < k) : ((2 : Int) ^ n).natAbs < 2 ^ k := by
  rw [Int.natAbs_pow]
  exact Nat.pow_lt_pow_right (by decide) h
theorem dot_sm {x y w : Int} {B : Nat} {p : V3} (hx : x.natAbs < 2 ^ 100) (hy : y.natAbs < 2 ^ 100) (hw : w.natAbs < 2 ^ 100) (hp : Sm B p) : (dotQ x y w p).natAbs < 2 ^ (B + 102) := by
  obtain ⟨p1, p2, p3⟩ := hp
  have := abs_add (abs_add (abs_mul hx p1) (abs_mul hy p2)) (abs_up (abs_mul hw p3) (by omega))
  rw [show B + 102 = 100 + B + 1 + 1 by omega]
  exact this
theorem mix_sm {s t : Int} {B C : Nat} {p q : V3} (hs : s.natAbs < 2 ^ C) (ht : t.natAbs < 2 ^ C) (hp : Sm B p) (hq : Sm B q) : Sm (C + B + 1) (mixQ s t p q) :=
  ⟨abs_add (abs_mul ht hp.1) (abs_mul hs hq.1), abs_add (abs_mul ht hp.2.1) (abs_mul hs hq.2.1), abs_add (abs_mul ht hp.2.2) (abs_mul hs hq.2.2)⟩
theorem Sm.up {B C : Nat} {p : V3} (h : Sm B p) (hB : B ≤ C) : Sm C p := ⟨abs_up h.1 hB, abs_up h.2.1 hB, abs_up h.2.2 hB⟩
theorem cut_sm {x y w : Int} {B : Nat} {ps : List V3} (hx : x.natAbs < 2 ^ 100) (hy : y.natAbs < 2 ^ 100) (hw : w.natAbs < 2 ^ 100) (hp : ∀ p ∈ ps, Sm B p) : ∀ p ∈ cutF x y w ps, Sm (2 * B + 103) p :=
  cut_all _ (fun p h => (hp p h).up (by omega)) fun p h q h' _ => by
    have := mix_sm (s := absQ (dotQ x y w p)) (t := absQ (dotQ x y w q)) (C := B + 102) (by rw [absQ_abs]; exact dot_sm hx hy hw (hp p h)) (by rw [absQ_abs]; exact dot_sm hx hy hw (hp q h')) (hp p h) (hp q h')
    rw [show 2 * B + 103 = B + 102 + B + 1 by omega]
    exact this
theorem at_getQ {ps : List V3} {k : Nat} (h : k < ps.length) : atI (ps.map t3) (k : Int) = some (.tuple [.int (getQ ps k).1, .int (getQ ps k).2.1, .int (getQ ps k).2.2]) := by
  refine atI_nat ?_
  unfold getQ
  rw [List.getElem?_map, List.getElem?_eq_getElem h, List.getD_eq_getElem?_getD, List.getElem?_eq_getElem h]
  rfl
theorem at_prv {ps : List V3} {k : Nat} (h : k < ps.length) : atI (ps.map t3) ((k : Int) - 1) = some (.tuple [.int (prv ps k).1, .int (prv ps k).2.1, .int (prv ps k).2.2]) := by
  unfold prv
  split
  · next z =>
    subst z
    have hne : ps ≠ [] := List.length_pos_iff.mp h
    have e : ps = ps.dropLast ++ [ps.getLast hne] := (List.dropLast_concat_getLast hne).symm
    have e2 : getQ ps (ps.length - 1) = ps.getLast hne := by
      refine getQ_at ?_
      rw [List.getLast_eq_getElem, List.getElem?_eq_getElem]
    rw [e2]
    generalize ps.getLast hne = v at *
    rw [e, List.map_append]
    simp only [List.map_cons, List.map_nil]
    rw [show ((0 : Nat) : Int) - 1 = -1 by rfl, at_last]
    rfl
  · rw [show (k : Int) - 1 = ((k - 1 : Nat) : Int) by omega]
    exact at_getQ (by omega)
def mixF (s t : Int) (p q : V3) : D → Option D
  | .int j => some (.int (t * (if j = 0 then p.1 else if j = 1 then p.2.1 else p.2.2) + s * (if j = 0 then q.1 else if j = 1 then q.2.1 else q.2.2)))
  | _ => none
theorem cut_cl {ps : List V3} {x y w : Int} {B : Nat} {Q : D → List D → Prop} (hl : ps.length ≤ 100) (hB : B ≤ 5000) (hx : x.natAbs < 2 ^ 100) (hy : y.natAbs < 2 ^ 100) (hw : w.natAbs < 2 ^ 100) (hp : ∀ p ∈ ps, Sm B p) (q : ∀ as, Q (.list ((cutF x y w ps).map t3)) as) :
    Cl F_law_cut [.list (ps.map t3), .int x, .int y, .int w] Q := by
  refine fn_cl rfl ?_
  unfold b_law_cut
  walk_at "e"
  rw [List.length_map]
  refine ⟨by omega, ?_⟩
  refine for_r0 (fun i s => ∃ x5 x6 x7 x8 x9 x10 x11, s = [some (.list (ps.map t3)), some (.int x), some (.int y), some (.int w), some (.list ((cutP x y w ps i).map t3)), x5, x6, x7, x8, x9, x10, x11, none]) ⟨_, _, _, _, _, _, _, rfl⟩ ?_ ?_
  · rintro i _ hi ⟨x5, x6, x7, x8, x9, x10, x11, rfl⟩
    have hi : i < ps.length := by omega
    have s1 := hp _ (prv_mem hi)
    have s2 := hp _ (getQ_mem hi)
    walk_at "z"
    rw [at_prv hi]
    walk_at "z"
    rw [at_getQ hi]
    walk_at "z"
    have a1 : (absQ (dotQ x y w (prv ps i))).natAbs < 2 ^ (B + 102) := by rw [absQ_abs]; exact dot_sm hx hy hw s1
    have a2 : (absQ (dotQ x y w (getQ ps i))).natAbs < 2 ^ (B + 102) := by rw [absQ_abs]; exact dot_sm hx hy hw s2
    have cl := cutP_len (x := x) (y := y) (w := w) (ps := ps) i
    have fl : ∀ k ≤ 2, decide (((cutP x y w ps i).map t3).length + k < sizeLine) = true := fun k hk => decide_eq_true (by unfold sizeLine; rw [List.length_map]; omega)
    have fin : ∀ l, cutS x y w (prv ps i) (getQ ps i) = l → (cutP x y w ps (i + 1)).map t3 = (cutP x y w ps i).map t3 ++ l.map t3 := fun l e => by rw [cutP_succ, e, List.map_append]
    refine ⟨mulC_of (m := 100) (n := B) hx s1.1 (by omega), mulC_of (m := 100) (n := B) hy s1.2.1 (by omega), mulC_of (m := 100) (n := B) hw s1.2.2 (by omega), mulC_of (m := 100) (n := B) hx s2.1 (by omega), mulC_of (m := 100) (n := B) hy s2.2.1 (by omega), mulC_of (m := 100) (n := B) hw s2.2.2 (by omega), ?_⟩
    refine br_d (fun h0 => ?_) fun h0 => ?_
    · have h0 : dotQ x y w (prv ps i) < 0 := h0
      walk_at "z"
      refine br_d (fun t0 => ?_) fun t0 => ?_
      · have t0 : 0 ≤ dotQ x y w (getQ ps i) := t0
        walk_at "z"
        refine br_d (fun t1 => ?_) fun t1 => ?_
        · have t1 : 0 < dotQ x y w (getQ ps i) := t1
          have e : cutS x y w (prv ps i) (getQ ps i) = [(mixQ (absQ (dotQ x y w (prv ps i))) (absQ (dotQ x y w (getQ ps i))) (prv ps i) (getQ ps i)), getQ ps i] := by
            unfold cutS
            rw [if_pos (by unfold crQ; rw [decide_eq_true h0, decide_eq_true t1]; rfl), if_pos t0]
            rfl
          rw [fin _ e]
          walk_at "z"
          refine lc_map (mixF (absQ (dotQ x y w (prv ps i))) (absQ (dotQ x y w (getQ ps i))) (prv ps i) (getQ ps i)) (fun d hd => ?_) ?_
          · rw [show rgD 0 3 = [.int 0, .int 1, .int 2] from rfl] at hd
            simp only [List.mem_cons, List.not_mem_nil, or_false] at hd
            rcases hd with rfl | rfl | rfl
            · walk_at "z"
              exact ⟨mulC_of (m := B + 102) (n := B) a2 s1.1 (by omega), mulC_of (m := B + 102) (n := B) a1 s2.1 (by omega), rfl⟩
            · walk_at "z"
              exact ⟨mulC_of (m := B + 102) (n := B) a2 s1.2.1 (by omega), mulC_of (m := B + 102) (n := B) a1 s2.2.1 (by omega), rfl⟩
            · walk_at "z"
              exact ⟨mulC_of (m := B + 102) (n := B) a2 s1.2.2 (by omega), mulC_of (m := B + 102) (n := B) a1 s2.2.2 (by omega), rfl⟩
          rw [show (rgD 0 3).filterMap (mixF (absQ (dotQ x y w (prv ps i))) (absQ (dotQ x y w (getQ ps i))) (prv ps i) (getQ ps i)) = [.int (mixQ (absQ (dotQ x y w (prv ps i))) (absQ (dotQ x y w (getQ ps i))) (prv ps i) (getQ ps i)).1, .int (mixQ (absQ (dotQ x y w (prv ps i))) (absQ (dotQ x y w (getQ ps i))) (prv ps i) (getQ ps i)).2.1, .int (mixQ (absQ (dotQ x y w (prv ps i))) (absQ (dotQ x y w (getQ ps i))) (prv ps i) (getQ ps i)).2.2] from rfl]
          walk_at "z"
          refine ⟨fl 0 (by omega), br_y t0 ?_⟩
          walk_at "z"
          exact ⟨by rw [List.length_append]; exact fl 1 (by omega), _, _, _, _, _, _, _, by rw [List.append_assoc]; rfl⟩
        · have t1 : dotQ x y w (getQ ps i) = 0 := by have : ¬ 0 < dotQ x y w (getQ ps i) := t1; omega
          have e : cutS x y w (prv ps i) (getQ ps i) = [getQ ps i] := by
            unfold cutS
            rw [if_neg (by unfold crQ; rw [t1]; simp), if_pos t0]
            rfl
          rw [fin _ e]
          walk_at "z"
          refine br_n (show ¬ dotQ x y w (getQ ps i) < 0 by omega) ?_
          walk_at "z"
          refine br_y t0 ?_
          walk_at "z"
          exact ⟨fl 0 (by omega), _, _, _, _, _, _, _, rfl⟩
      · have t0 : ¬ 0 ≤ dotQ x y w (getQ ps i) := t0
        have e : cutS x y w (prv ps i) (getQ ps i) = [] := by
          unfold cutS
          rw [if_neg (by unfold crQ; simp only [Bool.or_eq_true, Bool.and_eq_true, decide_eq_true_eq]; omega), if_neg t0]
          rfl
        rw [fin _ e]
        walk_at "z"
        refine br_y (show dotQ x y w (getQ ps i) < 0 by omega) ?_
        walk_at "z"
        refine br_n (show ¬ 0 < dotQ x y w (prv ps i) by omega) ?_
        walk_at "z"
        refine br_n t0 ?_
        walk_at "z"
        exact ⟨_, _, _, _, _, _, _, by rw [List.map_nil, List.append_nil]⟩
    · have h0 : ¬ dotQ x y w (prv ps i) < 0 := h0
      walk_at "z"
      refine br_d (fun t0 => ?_) fun t0 => ?_
      · have t0 : dotQ x y w (getQ ps i) < 0 := t0
        walk_at "z"
        refine br_d (fun h1 => ?_) fun h1 => ?_
        · have h1 : 0 < dotQ x y w (prv ps i) := h1
          have e : cutS x y w (prv ps i) (getQ ps i) = [(mixQ (absQ (dotQ x y w (prv ps i))) (absQ (dotQ x y w (getQ ps i))) (prv ps i) (getQ ps i))] := by
            unfold cutS
            rw [if_pos (by unfold crQ; rw [decide_eq_true h1, decide_eq_true t0]; simp), if_neg (by omega)]
            rfl
          rw [fin _ e]
          walk_at "z"
          refine lc_map (mixF (absQ (dotQ x y w (prv ps i))) (absQ (dotQ x y w (getQ ps i))) (prv ps i) (getQ ps i)) (fun d hd => ?_) ?_
          · rw [show rgD 0 3 = [.int 0, .int 1, .int 2] from rfl] at hd
            simp only [List.mem_cons, List.not_mem_nil, or_false] at hd
            rcases hd with rfl | rfl | rfl
            · walk_at "z"
              exact ⟨mulC_of (m := B + 102) (n := B) a2 s1.1 (by omega), mulC_of (m := B + 102) (n := B) a1 s2.1 (by omega), rfl⟩
            · walk_at "z"
              exact ⟨mulC_of (m := B + 102) (n := B) a2 s1.2.1 (by omega), mulC_of (m := B + 102) (n := B) a1 s2.2.1 (by omega), rfl⟩
            · walk_at "z"
              exact ⟨mulC_of (m := B + 102) (n := B) a2 s1.2.2 (by omega), mulC_of (m := B + 102) (n := B) a1 s2.2.2 (by omega), rfl⟩
          rw [show (rgD 0 3).filterMap (mixF (absQ (dotQ x y w (prv ps i))) (absQ (dotQ x y w (getQ ps i))) (prv ps i) (getQ ps i)) = [.int (mixQ (absQ (dotQ x y w (prv ps i))) (absQ (dotQ x y w (getQ ps i))) (prv ps i) (getQ ps i)).1, .int (mixQ (absQ (dotQ x y w (prv ps i))) (absQ (dotQ x y w (getQ ps i))) (prv ps i) (getQ ps i)).2.1, .int (mixQ (absQ (dotQ x y w (prv ps i))) (absQ (dotQ x y w (getQ ps i))) (prv ps i) (getQ ps i)).2.2] from rfl]
          walk_at "z"
          refine ⟨fl 0 (by omega), br_n (show ¬ 0 ≤ dotQ x y w (getQ ps i) by omega) ?_⟩
          walk_at "z"
          exact ⟨_, _, _, _, _, _, _, rfl⟩
        · have h1 : ¬ 0 < dotQ x y w (prv ps i) := h1
          have e : cutS x y w (prv ps i) (getQ ps i) = [] := by
            unfold cutS
            rw [if_neg (by unfold crQ; simp only [Bool.or_eq_true, Bool.and_eq_true, decide_eq_true_eq]; omega), if_neg (by omega)]
            rfl
          rw [fin _ e]
          walk_at "z"
          refine br_n (show ¬ 0 ≤ dotQ x y w (getQ ps i) by omega) ?_
          walk_at "z"
          exact ⟨_, _, _, _, _, _, _, by rw [List.map_nil, List.append_nil]⟩
      · have t0 : ¬ dotQ x y w (getQ ps i) < 0 := t0
        have e : cutS x y w (prv ps i) (getQ ps i) = [getQ ps i] := by
          unfold cutS
          rw [if_neg (by unfold crQ; simp only [Bool.or_eq_true, Bool.and_eq_true, decide_eq_true_eq]; omega), if_pos (by omega)]
          rfl
        rw [fin _ e]
        walk_at "z"
        refine br_y (show 0 ≤ dotQ x y w (getQ ps i) by omega) ?_
        walk_at "z"
        exact ⟨fl 0 (by omega), _, _, _, _, _, _, _, rfl⟩
  · rintro _ ⟨x5, x6, x7, x8, x9, x10, x11, rfl⟩
    walk_at "z"
    exact q _
def leQ (b : Int) (T P fr : Nat) (t : Int) : Int := 2 * b * (t * 2 ^ (P + fr) - 2 ^ (T + P))
def riQ (b : Int) (T P fr : Nat) (t : Int) : Int := 2 * b * ((t + 1) * 2 ^ (P + fr) + 2 ^ (T + P))
def loE (b : Int) (T fr : Nat) (l : Int) : Int := 2 * b * l * 2 ^ (T + fr)
def zQ (T P : Nat) : Int := 2 ^ (T + P)
structure CelR (b : Int) (T P fr : Nat) (t l : Int) : Prop where
  b0 : 2 ≤ b
  b1 : b ≤ 16
  T1 : T ≤ 12
  P1 : P ≤ 12
  f1 : fr ≤ 60
  t1 : t.natAbs < 2 ^ 20
  l1 : l.natAbs < 2 ^ 20
theorem sides_cl {b m : Int} {T P fr : Nat} {t l : Int} {Q : D → List D → Prop} (h : CelR b T P fr t l) (q : ∀ as, Q (.list [.int (leQ b T P fr t), .int (riQ b T P fr t), .int (loE b T fr l), .int (loE b T fr (l + 1)), .int (zQ T P)]) as) :
    Cl F_law_sides [.tuple [.int b, .int m], .tuple [.int T, .int P], .int fr, .tuple [.int t, .int l]] Q := by
  obtain ⟨b0, b1, T1, P1, f1, t1, l1⟩ := h
  refine fn_cl rfl ?_
  unfold b_law_sides
  walk_at "e"
  have e1 : ((P : Int) + fr).toNat = P + fr := by omega
  have e2 : ((T : Int) + P).toNat = T + P := by omega
  have e3 : ((T : Int) + fr).toNat = T + fr := by omega
  rw [e1, e2, e3]
  have p1 : ((2 : Int) ^ (P + fr)).natAbs < 2 ^ 75 := abs_p2 (by omega)
  have p2 : ((2 : Int) ^ (T + P)).natAbs < 2 ^ 75 := abs_p2 (by omega)
  have t2 : (t + 1).natAbs < 2 ^ 21 := by omega
  have a1 := abs_mul t1 p1
  have a2 := abs_mul t2 p1
  have bb : (2 * b).natAbs < 2 ^ 6 := by omega
  have l2 : (l + 1).natAbs < 2 ^ 21 := by omega
  have s1 : (t * 2 ^ (P + fr) - 2 ^ (T + P)).natAbs < 2 ^ 97 := by omega
  have s2 : ((t + 1) * 2 ^ (P + fr) + 2 ^ (T + P)).natAbs < 2 ^ 98 := by omega
  exact ⟨shlC_of (m := 1) (by omega) (by decide) (by omega), mulC_of (m := 2) (n := 5) (by decide) (by omega), shlC_of (by omega) t1 (by omega), shlC_of (by omega) t2 (by omega), mulC_of bb s1, mulC_of bb s2, mulC_of bb l1, shlC_of (by omega) (abs_mul bb l1) (by omega), mulC_of bb l2, shlC_of (by omega) (abs_mul bb l2) (by omega), q _⟩
section
variable {b : Int} {T P fr : Nat} {t l : Int}
theorem le_sm (h : CelR b T P fr t l) : (leQ b T P fr t).natAbs < 2 ^ 104 := by
  obtain ⟨b0, b1, T1, P1, f1, t1, l1⟩ := h
  have p1 : ((2 : Int) ^ (P + fr)).natAbs < 2 ^ 75 := abs_p2 (by omega)
  have p2 : ((2 : Int) ^ (T + P)).natAbs < 2 ^ 75 := abs_p2 (by omega)
  have a1 := abs_mul t1 p1
  exact abs_mul (m := 6) (n := 98) (by omega) (by omega)
theorem ri_sm (h : CelR b T P fr t l) : (riQ b T P fr t).natAbs < 2 ^ 104 := by
  obtain ⟨b0, b1, T1, P1, f1, t1, l1⟩ := h
  have p1 : ((2 : Int) ^ (P + fr)).natAbs < 2 ^ 75 := abs_p2 (by omega)
  have p2 : ((2 : Int) ^ (T + P)).natAbs < 2 ^ 75 := abs_p2 (by omega)
  have a1 := abs_mul (x := t + 1) (m := 21) (by omega) p1
  exact abs_mul (m := 6) (n := 98) (by omega) (by omega)
theorem lo_sm (h : CelR b T P fr t l) : (loE b T fr l).natAbs < 2 ^ 104 := by
  obtain ⟨b0, b1, T1, P1, f1, t1, l1⟩ := h
  have p1 : ((2 : Int) ^ (T + fr)).natAbs < 2 ^ 75 := abs_p2 (by omega)
  exact abs_up (abs_mul (abs_mul (m := 6) (n := 20) (by omega) l1) p1)
theorem hi_sm (h : CelR b T P fr t l) : (loE b T fr (l + 1)).natAbs < 2 ^ 104 := by
  obtain ⟨b0, b1, T1, P1, f1, t1, l1⟩ := h
  have p1 : ((2 : Int) ^ (T + fr)).natAbs < 2 ^ 75 := abs_p2 (by omega)
  exact abs_up (abs_mul (abs_mul (m := 6) (n := 21) (by omega) (by omega)) p1)
theorem z_sm (h : CelR b T P fr t l) : (zQ T P).natAbs < 2 ^ 25 := abs_p2 (by have := h.T1; have := h.P1; omega)
end
def ringE (b m : Int) (T P fr : Nat) (t l : Int) : List V3 := ringQ (b * m) (b - 1) (zQ T P) (leQ b T P fr t) (riQ b T P fr t) (loE b T fr l) (loE b T fr (l + 1))
theorem quad_sm {b : Int} {T P fr : Nat} {t l : Int} (h : CelR b T P fr t l) : ∀ p ∈ quadQ (leQ b T P fr t) (riQ b T P fr t) (loE b T fr l) (loE b T fr (l + 1)), Sm 104 p := by
  have h1 := le_sm h
  have h2 := ri_sm h
  have h3 := lo_sm h
  have h4 := hi_sm h
  intro p hp
  unfold quadQ at hp
  simp only [List.mem_cons, List.not_mem_nil, or_false] at hp
  rcases hp with rfl | rfl | rfl | rfl <;> exact ⟨by assumption, by assumption, show (1 : Int).natAbs < 2 ^ 104 by decide⟩
section
variable {b m : Int} {T P fr : Nat} {t l : Int}
theorem c_sm (hk : Knd b m) : (b * m).natAbs < 2 ^ 8 := by
  obtain ⟨b0, b1, m0, m1⟩ := hk.b2
  have h1 : b * m ≤ 16 * 15 := Int.mul_le_mul b1 m1 (by omega) (by omega)
  have h2 : 0 ≤ b * m := Int.mul_nonneg (by omega) (by omega)
  omega
theorem cut1_sm (hk : Knd b m) (h : CelR b T P fr t l) : ∀ p ∈ cutF (b * m) (b - 1) 0 (quadQ (leQ b T P fr t) (riQ b T P fr t) (loE b T fr l) (loE b T fr (l + 1))), Sm 311 p := by
  obtain ⟨b0, b1, m0, m1⟩ := hk.b2
  exact fun p hp => (cut_sm (B := 104) (abs_up (c_sm hk)) (by omega) (by decide) (quad_sm h) p hp).up (by decide)
theorem ring_sm (hk : Knd b m) (h : CelR b T P fr t l) : ∀ p ∈ ringE b m T P fr t l, Sm 725 p := by
  obtain ⟨b0, b1, m0, m1⟩ := hk.b2
  have hc := c_sm hk
  have hL : (b - 1).natAbs < 2 ^ 4 := by omega
  have hLL := abs_mul hL hL
  exact fun p hp => (cut_sm (B := 311) (abs_up (abs_mul hc hL)) (by omega) (abs_up (abs_mul (abs_mul hc hc) (z_sm h))) (cut1_sm hk h) p hp).up (by decide)
theorem ring_len : (ringE b m T P fr t l).length ≤ 16 := by
  have h1 := cutP_len (x := b * m) (y := b - 1) (w := 0) (ps := quadQ (leQ b T P fr t) (riQ b T P fr t) (loE b T fr l) (loE b T fr (l + 1))) 4
  have h2 := cutP_len (x := b * m * (b - 1)) (y := 0 - (b - 1) * (b - 1)) (w := b * m * (b * m) * zQ T P) (ps := cutF (b * m) (b - 1) 0 (quadQ (leQ b T P fr t) (riQ b T P fr t) (loE b T fr l) (loE b T fr (l + 1)))) (cutF (b * m) (b - 1) 0 (quadQ (leQ b T P fr t) (riQ b T P fr t) (loE b T fr l) (loE b T fr (l + 1)))).length
  have h1' : (cutF (b * m) (b - 1) 0 (quadQ (leQ b T P fr t) (riQ b T P fr t) (loE b T fr l) (loE b T fr (l + 1)))).length ≤ 8 := h1
  exact Nat.le_trans h2 (by omega)
theorem places_cl {Q : D → List D → Prop} (hk : Knd b m) (h : CelR b T P fr t l) (q : ∀ as, Q (.list ((ringE b m T P fr t l).map t3)) as) :
    Cl F_law_places [.tuple [.int b, .int m], .tuple [.int T, .int P], .int fr, .tuple [.int t, .int l]] Q := by
  obtain ⟨b0, b1, m0, m1⟩ := hk.b2
  have hc := c_sm hk
  have hL : (b - 1).natAbs < 2 ^ 4 := by omega
  have hLL := abs_mul hL hL
  have hcc := abs_mul hc hc
  have hcz := abs_mul hcc (z_sm h)
  have h1 := cutP_len (x := b * m) (y := b - 1) (w := 0) (ps := quadQ (leQ b T P fr t) (riQ b T P fr t) (loE b T fr l) (loE b T fr (l + 1))) 4
  have h1' : (cutF (b * m) (b - 1) 0 (quadQ (leQ b T P fr t) (riQ b T P fr t) (loE b T fr l) (loE b T fr (l + 1)))).length ≤ 8 := h1
  refine fn_cl rfl ?_
  unfold b_law_places
  walk_at "e"
  refine sides_cl h fun as => ?_
  walk_at "z"
  refine ⟨mulC_of (m := 5) (n := 4) (by omega) (by omega), ?_⟩
  refine cut_cl (ps := quadQ (leQ b T P fr t) (riQ b T P fr t) (loE b T fr l) (loE b T fr (l + 1))) (B := 104) (by unfold quadQ; simp) (by omega) (abs_up hc) (by omega) (by decide) (quad_sm h) fun as => ?_
  walk_at "z"
  refine ⟨mulC_of hc hL, mulC_of hL hL, mulC_of hc hc, mulC_of hcc (z_sm h), ?_⟩
  refine cut_cl (B := 311) (by omega) (by omega) (abs_up (abs_mul hc hL)) (by omega) (abs_up hcz) (cut1_sm hk h) fun as => ?_
  walk_at "z"
  exact q _
end
end S
set_option Elab.async false
set_option linter.all false
set_option maxRecDepth 100000
set_option maxHeartbeats 1000000
namespace S
open PySem L2 Z
local macro_rules | `(tactic| walk_at "z") => `(tactic| try simp (config := { dsimp := false }) only [↓run_nx, ↓run_no, ↓run_bk, ↓run_ct, ↓run_seq, ↓run_set, ↓run_drop, ↓run_ret, ↓run_asg, ↓run_app, ↓run_put, ↓run_aug, ↓run_frz, ↓run_kill, ↓xr_if, ↓ev_lc, ↓ev_yes, ↓run_ext, ↓ev_enum, ↓run_asgT, ↓run_retM, ↓run_fld, ↓ev_fld, ↓ev_at, ↓xv_callG, ↓xv_tupG, ↓xv_meth, ↓xv_make, ↓ev_move, so_tof, so_nonO, so_fillN, so_fillE, so_fillS, bkG0, bkGE, bkGF, bkGT, stD0, stDC, so_dof, so_noFd, fdN, fdC, fdE, fdO, ptN, ptC, ptE, ptO, nm_ahead_end, nm_ahead_ended, nm_ahead_figures, nm_ahead_is_figure, nm_ahead_kind, nm_ahead_last, nm_ahead_parted, nm_ahead_put, nm_ahead_told, nm_ask_cell_kind, nm_ask_cell_looks, nm_ask_cell_sight, nm_ask_cell_table, nm_base_below, nm_base_held, nm_base_put, nm_base_under, nm_base_upper, nm_begin_done, nm_begin_figures, nm_begin_great, nm_begin_kind, nm_begin_left, nm_begin_looks, nm_begin_numbers, nm_begin_rows, nm_begin_seen, nm_begin_stand, nm_begin_wide, nm_begin_works, nm_begin_rows_done, nm_begin_rows_kind, nm_begin_rows_looks, nm_begin_rows_rows, nm_begin_rows_seen, nm_begin_rows_works, nm_below_base, nm_below_under, nm_below_upper, nm_deeds_done, nm_deeds_kind, nm_deeds_looks, nm_deeds_rows, nm_deeds_seen, nm_deeds_works, nm_divided_kind, nm_divided_looks, nm_divided_sight, nm_divided_table, nm_done_begin, nm_done_begin_rows, nm_done_deeds, nm_done_entries, nm_done_go, nm_done_kind, nm_done_looked, nm_done_looks, nm_done_put, nm_done_rest, nm_done_row, nm_done_rows, nm_done_seen, nm_done_work, nm_done_works, nm_done_wrong, nm_end_ahead, nm_end_ended, nm_end_figures, nm_end_kind, nm_end_last, nm_ended_ahead, nm_ended_end, nm_ended_figures, nm_ended_is_figure, nm_ended_kind, nm_ended_last, nm_ended_parted, nm_ended_put, nm_ended_told, nm_entered_kind, nm_entered_looks, nm_entered_sight, nm_entered_table, nm_entries_done, nm_entries_kind, nm_entries_looks, nm_entries_rows, nm_entries_seen, nm_entries_works, nm_figures_ahead, nm_figures_begin, nm_figures_end, nm_figures_ended, nm_figures_great, nm_figures_is_figure, nm_figures_kind, nm_figures_last, nm_figures_left, nm_figures_looks, nm_figures_numbers, nm_figures_parted, nm_figures_put, nm_figures_rest, nm_figures_stand, nm_figures_told, nm_figures_tried, nm_figures_wide, nm_go_done, nm_go_kind, nm_go_looks, nm_go_rows, nm_go_seen, nm_go_works, nm_great_begin, nm_great_figures, nm_great_kind, nm_great_left, nm_great_looks, nm_great_numbers, nm_great_rest, nm_great_stand, nm_great_tried, nm_great_wide, nm_held_base, nm_held_under, nm_held_upper, nm_is_figure_ahead, nm_is_figure_ended, nm_is_figure_figures, nm_is_figure_kind, nm_is_figure_last, nm_kind_ahead, nm_kind_ask_cell, nm_kind_begin, nm_kind_begin_rows, nm_kind_deeds, nm_kind_divided, nm_kind_done, nm_kind_end, nm_kind_ended, nm_kind_entered, nm_kind_entries, nm_kind_figures, nm_kind_go, nm_kind_great, nm_kind_is_figure, nm_kind_last, nm_kind_left, nm_kind_looked, nm_kind_looks, nm_kind_numbers, nm_kind_parted, nm_kind_put, nm_kind_put_all, nm_kind_rest, nm_kind_row, nm_kind_rows, nm_kind_say, nm_kind_seen, nm_kind_sight, nm_kind_stand, nm_kind_table, nm_kind_told, nm_kind_tried, nm_kind_turned, nm_kind_wide, nm_kind_work, nm_kind_works, nm_kind_wrong, nm_last_ahead, nm_last_end, nm_last_ended, nm_last_figures, nm_last_is_figure, nm_last_kind, nm_last_parted, nm_last_put, nm_last_told, nm_left_begin, nm_left_figures, nm_left_great, nm_left_kind, nm_left_looks, nm_left_numbers, nm_left_rest, nm_left_stand, nm_left_tried, nm_left_wide, nm_look_top, nm_looked_done, nm_looked_kind, nm_looked_looks, nm_looked_rows, nm_looked_seen, nm_looked_sight, nm_looked_table, nm_looked_works, nm_looks_ask_cell, nm_looks_begin, nm_looks_begin_rows, nm_looks_deeds, nm_looks_divided, nm_looks_done, nm_looks_entered, nm_looks_entries, nm_looks_figures, nm_looks_go, nm_looks_great, nm_looks_kind, nm_looks_left, nm_looks_looked, nm_looks_numbers, nm_looks_put, nm_looks_put_all, nm_looks_rest, nm_looks_row, nm_looks_rows, nm_looks_say, nm_looks_seen, nm_looks_sight, nm_looks_stand, nm_looks_table, nm_looks_told, nm_looks_tried, nm_looks_turned, nm_looks_wide, nm_looks_work, nm_looks_works, nm_looks_wrong, nm_numbers_begin, nm_numbers_figures, nm_numbers_great, nm_numbers_kind, nm_numbers_left, nm_numbers_looks, nm_numbers_rest, nm_numbers_stand, nm_numbers_tried, nm_numbers_wide, nm_parted_ahead, nm_parted_ended, nm_parted_figures, nm_parted_kind, nm_parted_last, nm_put_ahead, nm_put_base, nm_put_done, nm_put_ended, nm_put_figures, nm_put_kind, nm_put_last, nm_put_looks, nm_put_rows, nm_put_seen, nm_put_under, nm_put_upper, nm_put_works, nm_put_all_kind, nm_put_all_looks, nm_put_all_sight, nm_put_all_table, nm_rest_done, nm_rest_figures, nm_rest_great, nm_rest_kind, nm_rest_left, nm_rest_looks, nm_rest_numbers, nm_rest_rows, nm_rest_seen, nm_rest_stand, nm_rest_wide, nm_rest_works, nm_row_done, nm_row_kind, nm_row_looks, nm_row_rows, nm_row_seen, nm_row_works, nm_rows_begin, nm_rows_begin_rows, nm_rows_deeds, nm_rows_done, nm_rows_entries, nm_rows_go, nm_rows_kind, nm_rows_looked, nm_rows_looks, nm_rows_put, nm_rows_rest, nm_rows_row, nm_rows_seen, nm_rows_work, nm_rows_works, nm_rows_wrong, nm_say_kind, nm_say_looks, nm_say_sight, nm_say_table, nm_seen_begin, nm_seen_begin_rows, nm_seen_deeds, nm_seen_done, nm_seen_entries, nm_seen_go, nm_seen_kind, nm_seen_looked, nm_seen_looks, nm_seen_put, nm_seen_rest, nm_seen_row, nm_seen_rows, nm_seen_work, nm_seen_works, nm_seen_wrong, nm_sight_ask_cell, nm_sight_divided, nm_sight_entered, nm_sight_kind, nm_sight_looked, nm_sight_looks, nm_sight_put_all, nm_sight_say, nm_sight_table, nm_sight_told, nm_sight_turned, nm_stand_begin, nm_stand_figures, nm_stand_great, nm_stand_kind, nm_stand_left, nm_stand_looks, nm_stand_numbers, nm_stand_rest, nm_stand_tried, nm_stand_wide, nm_table_ask_cell, nm_table_divided, nm_table_entered, nm_table_kind, nm_table_looked, nm_table_looks, nm_table_put_all, nm_table_say, nm_table_sight, nm_table_told, nm_table_turned, nm_told_ahead, nm_told_ended, nm_told_figures, nm_told_kind, nm_told_last, nm_told_looks, nm_told_sight, nm_told_table, nm_top_look, nm_tried_figures, nm_tried_great, nm_tried_kind, nm_tried_left, nm_tried_looks, nm_tried_numbers, nm_tried_stand, nm_tried_wide, nm_turned_kind, nm_turned_looks, nm_turned_sight, nm_turned_table, nm_under_base, nm_under_below, nm_under_held, nm_under_put, nm_under_upper, nm_upper_base, nm_upper_below, nm_upper_held, nm_upper_put, nm_upper_under, nm_wide_begin, nm_wide_figures, nm_wide_great, nm_wide_kind, nm_wide_left, nm_wide_looks, nm_wide_numbers, nm_wide_rest, nm_wide_stand, nm_wide_tried, nm_work_done, nm_work_kind, nm_work_looks, nm_work_rows, nm_work_seen, nm_work_works, nm_works_begin, nm_works_begin_rows, nm_works_deeds, nm_works_done, nm_works_entries, nm_works_go, nm_works_kind, nm_works_looked, nm_works_looks, nm_works_put, nm_works_rest, nm_works_row, nm_works_rows, nm_works_seen, nm_works_work, nm_works_wrong, nm_wrong_done, nm_wrong_kind, nm_wrong_looks, nm_wrong_rows, nm_wrong_seen, nm_wrong_works, sz1, sz2, sz3, sz4, sz5, sz6, sz7, sz8, sz9, sz10, sz11, true_and, ↓run_putP, ↓run_appP, ↓ev_plR, ↓ev_plIx, ↓ev_fz, ↓ev_rep, ↓run_fo, ↓run_wh, ↓ev_ok, ↓ev_opt, ↓ev_var, ↓ev_C, ↓ev_V, ↓ev_slot, ↓ev_op, ↓ev_un, ↓ev_B, ↓ev_not, ↓ev_notV, ↓ev_nil, ↓ev_cons, ↓ev_nilB, ↓ev_consB, ↓ev_tup, ↓ev_lst, ↓ev_B1, ↓ev_sl, ↓ev_P0, ↓ev_P1, ↓ev_Rg1, ↓ev_Rg2, ↓ev_LstRg, ↓ev_It, ↓ev_R1, ↓ev_R2, ↓xv_and, ↓xv_or, ↓xv_andV, ↓xv_orV, ↓xv_if, ↓xv_chain, ↓xv_call, ↓xv_call1, ↓xv_callT, hdC, br_t, br_f, so_some, so_none, so_mapN, so_mapC, lks_eq, rg_z, rg_s, lk0, lkS, st0, stS, entry0, entryS, rep0, repS, res_val, res_slot, so_add, so_sub, so_addN, so_subN, so_mul, so_div, so_mod, so_pow, so_shl, so_shr, so_and, so_or, so_xor, so_lt, so_le, so_gt, so_ge, so_eqI, so_neI, so_neg, so_isN, so_notN, non_n, non_i, non_t, non_l, non_b, non_s, so_ixL, so_ixT, at0, at1, at2, at3, ix0, ix1, ix2, ixN30, ixN31, ixN32, so_tru, so_iof, so_lof, so_itL, so_itT, so_r1, so_r2, so_abs, so_max, so_min, so_intB, so_intI, ii_i, ib_i, ib_b, ii_b, it_t, it_l, il_l, il_t, so_cat, so_inL, so_inT, so_ninL, so_ninT, so_maxI, so_maxT, so_rev, so_bits, so_en, wpD0, wpDC, bk0, bkC, oat0, oatS, so_catD, so_isBl, so_notBl, so_listOfL, so_listOfT, so_listL, so_listT, so_tupL, so_tupT, mx0, mxC, fz0, fzC, flO, flN, noL_i, noL_n, noL_b, noL_s, noL_t, noLs_n, noLs_c, Bool.and_true, Bool.and_self, getP0, setP0, so_ixP0, so_getP1, so_slL, so_lenL, so_lenT, so_gN, Int.cast_ofNat_Int, so_gT, so_gL, so_gC, so_gE, Int.toNat_natCast, Int.one_mul, modC_eq, shrC_eq, powC_eq, fits0, fits1, fits2, fits3, fits4, fits5, fits6, fits7, fits8, fits9, fits10, fits11, fits12, fits13, fits14, fits15, fits16, rngC_eq, List.length_cons, List.length_nil, Nat.reduceAdd, Nat.zero_add, List.set_cons_zero, List.set_cons_succ, true_and, and_true, decide_true, decide_false, Bool.not_true, Bool.not_false, Int.reduceLT, Int.reduceSub, Int.reduceAdd, Int.reduceMul, Int.reduceNeg, Int.reduceDiv, Int.reduceMod, Int.reduceEq, Int.reduceLE, Int.reduceToNat, Int.reducePow, nab10, nab2, eq_self])
local macro_rules | `(tactic| walk_at "e") => `(tactic| (simp (config := { dsimp := false }) only [entryS, entry0, repS, rep0]; walk_at "z"))
def rokB (L m z f : Int) (p : V3) : Bool := !(decide (¬ f = m) && decide ((f * L + m) * p.1 < L * p.2.1)) && !(decide (¬ f = 0 - m) && decide (L * L * p.2.1 < L * (f * L - m) * p.1 + (f * L - m) * (f * L - m) * z * p.2.2))
def rgN (L m z : Int) (ring : List V3) (n : Nat) : List Int := (List.range n).filterMap fun k : Nat => if ring.all (rokB L m z (0 - m + (k : Int))) then some (0 - m + (k : Int)) else none
theorem rgN_succ {L m z : Int} {ring : List V3} {n : Nat} : rgN L m z ring (n + 1) = rgN L m z ring n ++ (if ring.all (rokB L m z (0 - m + (n : Int))) then [0 - m + (n : Int)] else []) := by
  unfold rgN
  rw [List.range_succ, List.filterMap_append]
  congr 1
  rw [List.filterMap_cons]
  split <;> split at * <;> simp_all
theorem rgN_len {L m z : Int} {ring : List V3} {n : Nat} : (rgN L m z ring n).length ≤ n := by
  unfold rgN
  exact Nat.le_trans (List.length_filterMap_le ..) (by simp)
theorem rgN_in {L m z : Int} {ring : List V3} {n : Nat} {f : Int} (h : f ∈ rgN L m z ring n) : -m ≤ f ∧ f < n - m := by
  unfold rgN at h
  obtain ⟨k, hk, e⟩ := List.mem_filterMap.mp h
  have hk := List.mem_range.mp hk
  split at e
  · cases e
    omega
  · cases e
def rgoodD (b m : Int) (T P fr : Nat) (t l : Int) : D := if (ringE b m T P fr t l).isEmpty then .none else .list ((rgN (b - 1) m (zQ T P) (ringE b m T P fr t l) (2 * m + 1).toNat).map .int)
theorem shp_t3 (ps : List V3) : shp 2 (.list (ps.map t3)) = true := by
  show (ps.map t3).all (Z.shp 1) = true
  rw [List.all_map, List.all_eq_true]
  intro p _
  rfl
theorem take_all {α : Type} {l : List α} {i : Nat} {x : α} {f : α → Bool} (h : l[i]? = some x) : (l.take (i + 1)).all f = ((l.take i).all f && f x) := by
  rw [List.take_add_one, h, List.all_append]
  simp
theorem rgood_cl {b m : Int} {T P fr : Nat} {t l : Int} {Q : D → List D → Prop} (hk : Knd b m) (h : CelR b T P fr t l) (q : ∀ as, Q (rgoodD b m T P fr t l) as) :
    Cl F_law_root_good [.tuple [.int b, .int m], .tuple [.int T, .int P], .int fr, .tuple [.int t, .int l]] Q := by
  obtain ⟨b0, b1, m0, m1⟩ := hk.b2
  refine fn_cl rfl ?_
  unfold b_law_root_good
  walk_at "e"
  refine places_cl hk h fun as => ?_
  walk_at "z"
  refine so_eqNil (shp_t3 _) ?_
  walk_at "z"
  rw [List.isEmpty_map]
  unfold rgoodD at q
  refine br_i (fun he => ?_) fun he => ?_
  · rw [he, if_pos rfl] at q
    walk_at "z"
    exact q _
  rw [he, if_neg (by decide)] at q
  walk_at "z"
  refine sides_cl h fun as => ?_
  walk_at "z"
  have hr := ring_sm hk h
  have hz := z_sm h
  have hlen := ring_len (b := b) (m := m) (T := T) (P := P) (fr := fr) (t := t) (l := l)
  generalize ringE b m T P fr t l = ring at *
  generalize zQ T P = z at *
  rw [show atI [PyData.int (leQ b T P fr t), PyData.int (riQ b T P fr t), PyData.int (loE b T fr l), PyData.int (loE b T fr (l + 1)), PyData.int z] 4 = some (.int z) from rfl]
  walk_at "z"
  have hL : (b - 1).natAbs < 2 ^ 4 := by omega
  refine ⟨by omega, ?_⟩
  refine for_rg (fun i s => ∃ x8 x9 x10 x11 x12 x13 x14 x15, s = [some (.tuple [.int b, .int m]), some (.tuple [.int T, .int P]), some (.int fr), some (.tuple [.int t, .int l]), some (.list (ring.map t3)), some (.int z), some (.int (b - 1)), some (.list ((rgN (b - 1) m z ring i).map .int)), x8, x9, x10, x11, x12, x13, x14, x15]) ⟨_, _, _, _, _, _, _, _, rfl⟩ ?_ ?_
  · rintro i _ hi ⟨x8, x9, x10, x11, x12, x13, x14, x15, rfl⟩
    have hf : (0 - m + (i : Int)).natAbs < 2 ^ 4 := by omega
    have hfl := abs_mul hf hL
    have hup : ((0 - m + (i : Int)) * (b - 1) + m).natAbs < 2 ^ 9 := by omega
    have hlo : ((0 - m + (i : Int)) * (b - 1) - m).natAbs < 2 ^ 9 := by omega
    walk_at "z"
    refine ⟨mulC_of hf hL, mulC_of hf hL, ?_⟩
    refine for_it (fun j s => ∃ x12 x13 x14 x15, s = [some (.tuple [.int b, .int m]), some (.tuple [.int T, .int P]), some (.int fr), some (.tuple [.int t, .int l]), some (.list (ring.map t3)), some (.int z), some (.int (b - 1)), some (.list ((rgN (b - 1) m z ring i).map .int)), some (.int (0 - m + i)), some (.int ((0 - m + i) * (b - 1) + m)), some (.int ((0 - m + i) * (b - 1) - m)), some (.bool ((ring.take j).all (rokB (b - 1) m z (0 - m + i)))), x12, x13, x14, x15]) ⟨_, _, _, _, rfl⟩ ?_ ?_
    · rintro j d _ hd ⟨x12, x13, x14, x15, rfl⟩
      rw [List.getElem?_map, Option.map_eq_some_iff] at hd
      obtain ⟨⟨X, Y, W⟩, hp, rfl⟩ := hd
      obtain ⟨p1, p2, p3⟩ := hr _ (List.mem_of_getElem? hp)
      have p1 : X.natAbs < 2 ^ 725 := p1
      have p2 : Y.natAbs < 2 ^ 725 := p2
      have p3 : W.natAbs < 2 ^ 725 := p3
      rw [take_all hp]
      generalize (ring.take j).all (rokB (b - 1) m z (0 - m + i)) = B
      unfold t3
      walk_at "z"
      refine br_nd (fun n1 => ?_) fun n1 => ?_
      · walk_at "z"
        refine ⟨mulC_of hL p2, mulC_of hup p1, ?_⟩
        refine br_d (fun g1 => ?_) fun g1 => ?_
        · walk_at "z"
          refine ⟨mulC_of hL hlo, mulC_of (abs_mul hL hlo) p1, mulC_of hlo hlo, mulC_of (abs_mul hlo hlo) hz, mulC_of (abs_mul (abs_mul hlo hlo) hz) p3, ?_⟩
          refine br_nd (fun n2 => ?_) fun n2 => ?_
          · walk_at "z"
            refine ⟨mulC_of hL hL, mulC_of (abs_mul hL hL) p2, ?_⟩
            refine br_d (fun g2 => ?_) fun g2 => ?_
            · have e : rokB (b - 1) m z (0 - m + i) (X, Y, W) = false := by unfold rokB; rw [decide_eq_true n2, decide_eq_true g2]; simp
              rw [e, Bool.and_false]
              walk_at "z"
              exact ⟨_, _, _, _, rfl⟩
            · have e : rokB (b - 1) m z (0 - m + i) (X, Y, W) = false := by unfold rokB; rw [decide_eq_true n1, decide_eq_true g1]; simp
              rw [e, Bool.and_false]
              walk_at "z"
              exact ⟨_, _, _, _, rfl⟩
          · have e : rokB (b - 1) m z (0 - m + i) (X, Y, W) = false := by unfold rokB; rw [decide_eq_true n1, decide_eq_true g1]; simp
            rw [e, Bool.and_false]
            walk_at "z"
            exact ⟨_, _, _, _, rfl⟩
        · walk_at "z"
          refine ⟨mulC_of hL hlo, mulC_of (abs_mul hL hlo) p1, mulC_of hlo hlo, mulC_of (abs_mul hlo hlo) hz, mulC_of (abs_mul (abs_mul hlo hlo) hz) p3, ?_⟩
          refine br_nd (fun n2 => ?_) fun n2 => ?_
          · walk_at "z"
            refine ⟨mulC_of hL hL, mulC_of (abs_mul hL hL) p2, ?_⟩
            refine br_d (fun g2 => ?_) fun g2 => ?_
            · have e : rokB (b - 1) m z (0 - m + i) (X, Y, W) = false := by unfold rokB; rw [decide_eq_true n2, decide_eq_true g2]; simp
              rw [e, Bool.and_false]
              walk_at "z"
              exact ⟨_, _, _, _, rfl⟩
            · have e : rokB (b - 1) m z (0 - m + i) (X, Y, W) = true := by unfold rokB; simp only [Bool.and_eq_true, Bool.not_eq_true', Bool.and_eq_false_iff, decide_eq_false_iff_not]; exact ⟨.inr g1, .inr g2⟩
              rw [e, Bool.and_true]
              walk_at "z"
              exact ⟨_, _, _, _, rfl⟩
          · have e : rokB (b - 1) m z (0 - m + i) (X, Y, W) = true := by unfold rokB; simp only [Bool.and_eq_true, Bool.not_eq_true', Bool.and_eq_false_iff, decide_eq_false_iff_not]; exact ⟨.inr g1, .inl fun hh => hh n2⟩
            rw [e, Bool.and_true]
            walk_at "z"
            exact ⟨_, _, _, _, rfl⟩
      · walk_at "z"
        refine ⟨mulC_of hL hlo, mulC_of (abs_mul hL hlo) p1, mulC_of hlo hlo, mulC_of (abs_mul hlo hlo) hz, mulC_of (abs_mul (abs_mul hlo hlo) hz) p3, ?_⟩
        refine br_nd (fun n2 => ?_) fun n2 => ?_
        · walk_at "z"
          refine ⟨mulC_of hL hL, mulC_of (abs_mul hL hL) p2, ?_⟩
          refine br_d (fun g2 => ?_) fun g2 => ?_
          · have e : rokB (b - 1) m z (0 - m + i) (X, Y, W) = false := by unfold rokB; rw [decide_eq_true n2, decide_eq_true g2]; simp
            rw [e, Bool.and_false]
            walk_at "z"
            exact ⟨_, _, _, _, rfl⟩
          · have e : rokB (b - 1) m z (0 - m + i) (X, Y, W) = true := by unfold rokB; simp only [Bool.and_eq_true, Bool.not_eq_true', Bool.and_eq_false_iff, decide_eq_false_iff_not]; exact ⟨.inl fun hh => hh n1, .inr g2⟩
            rw [e, Bool.and_true]
            walk_at "z"
            exact ⟨_, _, _, _, rfl⟩
        · have e : rokB (b - 1) m z (0 - m + i) (X, Y, W) = true := by unfold rokB; simp only [Bool.and_eq_true, Bool.not_eq_true', Bool.and_eq_false_iff, decide_eq_false_iff_not]; exact ⟨.inl fun hh => hh n1, .inl fun hh => hh n2⟩
          rw [e, Bool.and_true]
          walk_at "z"
          exact ⟨_, _, _, _, rfl⟩
    · rintro _ ⟨x12, x13, x14, x15, rfl⟩
      rw [List.length_map, List.take_length]
      walk_at "z"
      have hn := rgN_len (L := b - 1) (m := m) (z := z) (ring := ring) (n := i)
      refine br_i (fun ha => ?_) fun ha => ?_
      · walk_at "z"
        rw [rgN_succ, ha, if_pos rfl, List.map_append]
        exact ⟨decide_eq_true (by unfold sizeLine; rw [List.length_map]; omega), _, _, _, _, _, _, _, _, rfl⟩
      · walk_at "z"
        rw [rgN_succ, ha, if_neg (by decide), List.append_nil]
        exact ⟨_, _, _, _, _, _, _, _, rfl⟩
  · rintro _ ⟨x8, x9, x10, x11, x12, x13, x14, x15, rfl⟩
    walk_at "z"
    rw [show (m + 1 - (0 - m)).toNat = (2 * m + 1).toNat by omega]
    exact q _
end S
set_option Elab.async false
set_option linter.all false
set_option maxRecDepth 100000
set_option maxHeartbeats 1000000
namespace S
open PySem L2 Z
local macro_rules | `(tactic| walk_at "z") => `(tactic| try simp (config := { dsimp := false }) only [↓run_nx, ↓run_no, ↓run_bk, ↓run_ct, ↓run_seq, ↓run_set, ↓run_drop, ↓run_ret, ↓run_asg, ↓run_app, ↓run_put, ↓run_aug, ↓run_frz, ↓run_kill, ↓xr_if, ↓ev_lc, ↓ev_yes, ↓run_ext, ↓ev_enum, ↓run_asgT, ↓run_retM, ↓run_fld, ↓ev_fld, ↓ev_at, ↓xv_callG, ↓xv_tupG, ↓xv_meth, ↓xv_make, ↓ev_move, so_tof, so_nonO, so_fillN, so_fillE, so_fillS, bkG0, bkGE, bkGF, bkGT, stD0, stDC, so_dof, so_noFd, fdN, fdC, fdE, fdO, ptN, ptC, ptE, ptO, nm_ahead_end, nm_ahead_ended, nm_ahead_figures, nm_ahead_is_figure, nm_ahead_kind, nm_ahead_last, nm_ahead_parted, nm_ahead_put, nm_ahead_told, nm_ask_cell_kind, nm_ask_cell_looks, nm_ask_cell_sight, nm_ask_cell_table, nm_base_below, nm_base_held, nm_base_put, nm_base_under, nm_base_upper, nm_begin_done, nm_begin_figures, nm_begin_great, nm_begin_kind, nm_begin_left, nm_begin_looks, nm_begin_numbers, nm_begin_rows, nm_begin_seen, nm_begin_stand, nm_begin_wide, nm_begin_works, nm_begin_rows_done, nm_begin_rows_kind, nm_begin_rows_looks, nm_begin_rows_rows, nm_begin_rows_seen, nm_begin_rows_works, nm_below_base, nm_below_under, nm_below_upper, nm_deeds_done, nm_deeds_kind, nm_deeds_looks, nm_deeds_rows, nm_deeds_seen, nm_deeds_works, nm_divided_kind, nm_divided_looks, nm_divided_sight, nm_divided_table, nm_done_begin, nm_done_begin_rows, nm_done_deeds, nm_done_entries, nm_done_go, nm_done_kind, nm_done_looked, nm_done_looks, nm_done_put, nm_done_rest, nm_done_row, nm_done_rows, nm_done_seen, nm_done_work, nm_done_works, nm_done_wrong, nm_end_ahead, nm_end_ended, nm_end_figures, nm_end_kind, nm_end_last, nm_ended_ahead, nm_ended_end, nm_ended_figures, nm_ended_is_figure, nm_ended_kind, nm_ended_last, nm_ended_parted, nm_ended_put, nm_ended_told, nm_entered_kind, nm_entered_looks, nm_entered_sight, nm_entered_table, nm_entries_done, nm_entries_kind, nm_entries_looks, nm_entries_rows, nm_entries_seen, nm_entries_works, nm_figures_ahead, nm_figures_begin, nm_figures_end, nm_figures_ended, nm_figures_great, nm_figures_is_figure, nm_figures_kind, nm_figures_last, nm_figures_left, nm_figures_looks, nm_figures_numbers, nm_figures_parted, nm_figures_put, nm_figures_rest, nm_figures_stand, nm_figures_told, nm_figures_tried, nm_figures_wide, nm_go_done, nm_go_kind, nm_go_looks, nm_go_rows, nm_go_seen, nm_go_works, nm_great_begin, nm_great_figures, nm_great_kind, nm_great_left, nm_great_looks, nm_great_numbers, nm_great_rest, nm_great_stand, nm_great_tried, nm_great_wide, nm_held_base, nm_held_under, nm_held_upper, nm_is_figure_ahead, nm_is_figure_ended, nm_is_figure_figures, nm_is_figure_kind, nm_is_figure_last, nm_kind_ahead, nm_kind_ask_cell, nm_kind_begin, nm_kind_begin_rows, nm_kind_deeds, nm_kind_divided, nm_kind_done, nm_kind_end, nm_kind_ended, nm_kind_entered, nm_kind_entries, nm_kind_figures, nm_kind_go, nm_kind_great, nm_kind_is_figure, nm_kind_last, nm_kind_left, nm_kind_looked, nm_kind_looks, nm_kind_numbers, nm_kind_parted, nm_kind_put, nm_kind_put_all, nm_kind_rest, nm_kind_row, nm_kind_rows, nm_kind_say, nm_kind_seen, nm_kind_sight, nm_kind_stand, nm_kind_table, nm_kind_told, nm_kind_tried, nm_kind_turned, nm_kind_wide, nm_kind_work, nm_kind_works, nm_kind_wrong, nm_last_ahead, nm_last_end, nm_last_ended, nm_last_figures, nm_last_is_figure, nm_last_kind, nm_last_parted, nm_last_put, nm_last_told, nm_left_begin, nm_left_figures, nm_left_great, nm_left_kind, nm_left_looks, nm_left_numbers, nm_left_rest, nm_left_stand, nm_left_tried, nm_left_wide, nm_look_top, nm_looked_done, nm_looked_kind, nm_looked_looks, nm_looked_rows, nm_looked_seen, nm_looked_sight, nm_looked_table, nm_looked_works, nm_looks_ask_cell, nm_looks_begin, nm_looks_begin_rows, nm_looks_deeds, nm_looks_divided, nm_looks_done, nm_looks_entered, nm_looks_entries, nm_looks_figures, nm_looks_go, nm_looks_great, nm_looks_kind, nm_looks_left, nm_looks_looked, nm_looks_numbers, nm_looks_put, nm_looks_put_all, nm_looks_rest, nm_looks_row, nm_looks_rows, nm_looks_say, nm_looks_seen, nm_looks_sight, nm_looks_stand, nm_looks_table, nm_looks_told, nm_looks_tried, nm_looks_turned, nm_looks_wide, nm_looks_work, nm_looks_works, nm_looks_wrong, nm_numbers_begin, nm_numbers_figures, nm_numbers_great, nm_numbers_kind, nm_numbers_left, nm_numbers_looks, nm_numbers_rest, nm_numbers_stand, nm_numbers_tried, nm_numbers_wide, nm_parted_ahead, nm_parted_ended, nm_parted_figures, nm_parted_kind, nm_parted_last, nm_put_ahead, nm_put_base, nm_put_done, nm_put_ended, nm_put_figures, nm_put_kind, nm_put_last, nm_put_looks, nm_put_rows, nm_put_seen, nm_put_under, nm_put_upper, nm_put_works, nm_put_all_kind, nm_put_all_looks, nm_put_all_sight, nm_put_all_table, nm_rest_done, nm_rest_figures, nm_rest_great, nm_rest_kind, nm_rest_left, nm_rest_looks, nm_rest_numbers, nm_rest_rows, nm_rest_seen, nm_rest_stand, nm_rest_wide, nm_rest_works, nm_row_done, nm_row_kind, nm_row_looks, nm_row_rows, nm_row_seen, nm_row_works, nm_rows_begin, nm_rows_begin_rows, nm_rows_deeds, nm_rows_done, nm_rows_entries, nm_rows_go, nm_rows_kind, nm_rows_looked, nm_rows_looks, nm_rows_put, nm_rows_rest, nm_rows_row, nm_rows_seen, nm_rows_work, nm_rows_works, nm_rows_wrong, nm_say_kind, nm_say_looks, nm_say_sight, nm_say_table, nm_seen_begin, nm_seen_begin_rows, nm_seen_deeds, nm_seen_done, nm_seen_entries, nm_seen_go, nm_seen_kind, nm_seen_looked, nm_seen_looks, nm_seen_put, nm_seen_rest, nm_seen_row, nm_seen_rows, nm_seen_work, nm_seen_works, nm_seen_wrong, nm_sight_ask_cell, nm_sight_divided, nm_sight_entered, nm_sight_kind, nm_sight_looked, nm_sight_looks, nm_sight_put_all, nm_sight_say, nm_sight_table, nm_sight_told, nm_sight_turned, nm_stand_begin, nm_stand_figures, nm_stand_great, nm_stand_kind, nm_stand_left, nm_stand_looks, nm_stand_numbers, nm_stand_rest, nm_stand_tried, nm_stand_wide, nm_table_ask_cell, nm_table_divided, nm_table_entered, nm_table_kind, nm_table_looked, nm_table_looks, nm_table_put_all, nm_table_say, nm_table_sight, nm_table_told, nm_table_turned, nm_told_ahead, nm_told_ended, nm_told_figures, nm_told_kind, nm_told_last, nm_told_looks, nm_told_sight, nm_told_table, nm_top_look, nm_tried_figures, nm_tried_great, nm_tried_kind, nm_tried_left, nm_tried_looks, nm_tried_numbers, nm_tried_stand, nm_tried_wide, nm_turned_kind, nm_turned_looks, nm_turned_sight, nm_turned_table, nm_under_base, nm_under_below, nm_under_held, nm_under_put, nm_under_upper, nm_upper_base, nm_upper_below, nm_upper_held, nm_upper_put, nm_upper_under, nm_wide_begin, nm_wide_figures, nm_wide_great, nm_wide_kind, nm_wide_left, nm_wide_looks, nm_wide_numbers, nm_wide_rest, nm_wide_stand, nm_wide_tried, nm_work_done, nm_work_kind, nm_work_looks, nm_work_rows, nm_work_seen, nm_work_works, nm_works_begin, nm_works_begin_rows, nm_works_deeds, nm_works_done, nm_works_entries, nm_works_go, nm_works_kind, nm_works_looked, nm_works_looks, nm_works_put, nm_works_rest, nm_works_row, nm_works_rows, nm_works_seen, nm_works_work, nm_works_wrong, nm_wrong_done, nm_wrong_kind, nm_wrong_looks, nm_wrong_rows, nm_wrong_seen, nm_wrong_works, sz1, sz2, sz3, sz4, sz5, sz6, sz7, sz8, sz9, sz10, sz11, true_and, ↓run_putP, ↓run_appP, ↓ev_plR, ↓ev_plIx, ↓ev_fz, ↓ev_rep, ↓run_fo, ↓run_wh, ↓ev_ok, ↓ev_opt, ↓ev_var, ↓ev_C, ↓ev_V, ↓ev_slot, ↓ev_op, ↓ev_un, ↓ev_B, ↓ev_not, ↓ev_notV, ↓ev_nil, ↓ev_cons, ↓ev_nilB, ↓ev_consB, ↓ev_tup, ↓ev_lst, ↓ev_B1, ↓ev_sl, ↓ev_P0, ↓ev_P1, ↓ev_Rg1, ↓ev_Rg2, ↓ev_LstRg, ↓ev_It, ↓ev_R1, ↓ev_R2, ↓xv_and, ↓xv_or, ↓xv_andV, ↓xv_orV, ↓xv_if, ↓xv_chain, ↓xv_call, ↓xv_call1, ↓xv_callT, hdC, br_t, br_f, so_some, so_none, so_mapN, so_mapC, lks_eq, rg_z, rg_s, lk0, lkS, st0, stS, entry0, entryS, rep0, repS, res_val, res_slot, so_add, so_sub, so_addN, so_subN, so_mul, so_div, so_mod, so_pow, so_shl, so_shr, so_and, so_or, so_xor, so_lt, so_le, so_gt, so_ge, so_eqI, so_neI, so_neg, so_isN, so_notN, non_n, non_i, non_t, non_l, non_b, non_s, so_ixL, so_ixT, at0, at1, at2, at3, ix0, ix1, ix2, ixN30, ixN31, ixN32, so_tru, so_iof, so_lof, so_itL, so_itT, so_r1, so_r2, so_abs, so_max, so_min, so_intB, so_intI, ii_i, ib_i, ib_b, ii_b, it_t, it_l, il_l, il_t, so_cat, so_inL, so_inT, so_ninL, so_ninT, so_maxI, so_maxT, so_rev, so_bits, so_en, wpD0, wpDC, bk0, bkC, oat0, oatS, so_catD, so_isBl, so_notBl, so_listOfL, so_listOfT, so_listL, so_listT, so_tupL, so_tupT, mx0, mxC, fz0, fzC, flO, flN, noL_i, noL_n, noL_b, noL_s, noL_t, noLs_n, noLs_c, Bool.and_true, Bool.and_self, getP0, setP0, so_ixP0, so_getP1, so_slL, so_lenL, so_lenT, so_gN, Int.cast_ofNat_Int, so_gT, so_gL, so_gC, so_gE, Int.toNat_natCast, Int.one_mul, modC_eq, shrC_eq, powC_eq, fits0, fits1, fits2, fits3, fits4, fits5, fits6, fits7, fits8, fits9, fits10, fits11, fits12, fits13, fits14, fits15, fits16, rngC_eq, List.length_cons, List.length_nil, Nat.reduceAdd, Nat.zero_add, List.set_cons_zero, List.set_cons_succ, true_and, and_true, decide_true, decide_false, Bool.not_true, Bool.not_false, Int.reduceLT, Int.reduceSub, Int.reduceAdd, Int.reduceMul, Int.reduceNeg, Int.reduceDiv, Int.reduceMod, Int.reduceEq, Int.reduceLE, Int.reduceToNat, Int.reducePow, nab10, nab2, eq_self])
local macro_rules | `(tactic| walk_at "e") => `(tactic| (simp (config := { dsimp := false }) only [entryS, entry0, repS, rep0]; walk_at "z"))
/-! ### root_good, walked -/
section
variable {b m : Int} {T P fr : Nat} {t l : Int}
structure CelG (b m : Int) (T P fr : Nat) (t l : Int) : Prop where
  c : CelR b T P fr t l
  T0 : 1 ≤ T
  f0 : 2 ≤ fr
  t0 : 2 ^ (T - 1) ≤ t
theorem CelG.sd (hk : Knd b m) (h : CelG b m T P fr t l) : SdQ (b * m) (b - 1) (zQ T P) (leQ b T P fr t) (riQ b T P fr t) (loE b T fr l) (loE b T fr (l + 1)) := by
  obtain ⟨b0, b1, m0, m1⟩ := hk.b2
  obtain ⟨⟨_, _, T1, P1, f1, t1, l1⟩, T0, f0, t0⟩ := h
  have hz : (0 : Int) < 2 ^ (T + P) := Int.pow_pos (by omega)
  have hpf : (0 : Int) < 2 ^ (P + fr) := Int.pow_pos (by omega)
  have htf : (0 : Int) < 2 ^ (T + fr) := Int.pow_pos (by omega)
  have h2b : (0 : Int) < 2 * b := by omega
  have key : 2 * (2 : Int) ^ (T + P) ≤ t * 2 ^ (P + fr) := by
    have h1 : (2 : Int) ^ (T - 1) * 2 ^ (P + fr) ≤ t * 2 ^ (P + fr) := Int.mul_le_mul_of_nonneg_right t0 (Int.le_of_lt hpf)
    have h2 : (2 : Int) ^ (T - 1) * 2 ^ (P + fr) = 2 * 2 ^ (T + P) * 2 ^ (fr - 2) := by
      rw [← Int.pow_add, show T - 1 + (P + fr) = 1 + (T + P) + (fr - 2) by omega, Int.pow_add, Int.pow_add]
      rfl
    have h3 : (1 : Int) ≤ 2 ^ (fr - 2) := Int.pow_pos (by omega)
    have h4 := Int.mul_le_mul_of_nonneg_left h3 (show 0 ≤ 2 * (2 : Int) ^ (T + P) by omega)
    omega
  refine ⟨Int.mul_pos (by omega) (by omega), by omega, hz, Int.mul_pos h2b (by omega), ?_, ?_⟩
  · refine Int.mul_lt_mul_of_pos_left ?_ h2b
    rw [Int.add_mul]
    omega
  · refine Int.mul_lt_mul_of_pos_right ?_ htf
    exact Int.mul_lt_mul_of_pos_left (by omega) h2b
def sd5 (b : Int) (T P fr : Nat) (t l : Int) : D := .tuple [.int (leQ b T P fr t), .int (riQ b T P fr t), .int (loE b T fr l), .int (loE b T fr (l + 1)), .int (zQ T P)]
theorem edges_cl {Q : D → List D → Prop} (h : CelR b T P fr t l) (q : ∀ as, Q (sd5 b T P fr t l) as) :
    Cl F_root_edges [.tuple [.int b, .int m], .tuple [.int T, .int P], .int fr, .tuple [.int t, .int l]] Q := by
  obtain ⟨b0, b1, T1, P1, f1, t1, l1⟩ := h
  refine fn_cl rfl ?_
  unfold b_root_edges
  walk_at "e"
  have e1 : ((P : Int) + fr).toNat = P + fr := by omega
  have e2 : ((T : Int) + P).toNat = T + P := by omega
  have e3 : ((T : Int) + fr).toNat = T + fr := by omega
  rw [e1, e2, e3]
  have p1 : ((2 : Int) ^ (P + fr)).natAbs < 2 ^ 75 := abs_p2 (by omega)
  have p2 : ((2 : Int) ^ (T + P)).natAbs < 2 ^ 75 := abs_p2 (by omega)
  have p3 : ((2 : Int) ^ (T + fr)).natAbs < 2 ^ 75 := abs_p2 (by omega)
  have t2 : (t + 1).natAbs < 2 ^ 21 := by omega
  have a1 := abs_mul t1 p1
  have a2 := abs_mul t2 p1
  have bb : (2 * b).natAbs < 2 ^ 6 := by omega
  have l2 : (l + 1).natAbs < 2 ^ 21 := by omega
  have s1 : (t * 2 ^ (P + fr) - 2 ^ (T + P)).natAbs < 2 ^ 97 := by omega
  have s2 : ((t + 1) * 2 ^ (P + fr) + 2 ^ (T + P)).natAbs < 2 ^ 98 := by omega
  refine ⟨shlC_of (m := 1) (by omega) (by decide) (by omega), mulC_of (m := 2) (n := 5) (by decide) (by omega), shlC_of (by omega) t1 (by omega), mulC_of bb s1, shlC_of (by omega) t2 (by omega), mulC_of bb s2, shlC_of (by omega) l1 (by omega), mulC_of bb (abs_mul l1 p3), shlC_of (by omega) l2 (by omega), mulC_of bb (abs_mul l2 p3), ?_⟩
  have := q [.tuple [.int b, .int m], .tuple [.int T, .int P], .int fr, .tuple [.int t, .int l]]
  unfold sd5 loE at this
  rw [Int.mul_assoc (2 * b) l, Int.mul_assoc (2 * b) (l + 1)] at this
  exact this
def rmB (c L z ri lo hi : Int) : Bool := !decide (L * hi < -c * ri) && decide (L * L * lo ≤ c * (L * ri + c * z))
theorem rmB_iff {c L z ri lo hi : Int} : rmB c L z ri lo hi = true ↔ rmQ c L z ri lo hi := by
  unfold rmB rmQ
  rw [Int.neg_mul]
  simp only [Bool.and_eq_true, Bool.not_eq_true', decide_eq_false_iff_not, decide_eq_true_eq]
  constructor
  · exact fun h => ⟨by omega, h.2⟩
  · exact fun h => ⟨by omega, h.2⟩
theorem met_cl {Q : D → List D → Prop} (hk : Knd b m) (h : CelR b T P fr t l) (q : ∀ as, Q (.bool (rmB (b * m) (b - 1) (zQ T P) (riQ b T P fr t) (loE b T fr l) (loE b T fr (l + 1)))) as) :
    Cl F_is_root_met [.tuple [.int b, .int m], .tuple [.int T, .int P], .int fr, .tuple [.int t, .int l]] Q := by
  obtain ⟨b0, b1, m0, m1⟩ := hk.b2
  have hc := c_sm hk
  have hL : (b - 1).natAbs < 2 ^ 4 := by omega
  have r1 := ri_sm h
  have r2 := lo_sm h
  have r3 := hi_sm h
  have r4 := z_sm h
  refine fn_cl rfl ?_
  unfold b_is_root_met
  walk_at "e"
  refine edges_cl h fun as => ?_
  unfold sd5
  walk_at "z"
  generalize riQ b T P fr t = ri at *
  generalize loE b T fr l = lo at *
  generalize loE b T fr (l + 1) = hi at *
  generalize zQ T P = z at *
  have hnc : (-b * m).natAbs < 2 ^ 8 := by rw [Int.neg_mul, Int.natAbs_neg]; exact hc
  have hs : ((b - 1) * ri + b * m * z).natAbs < 2 ^ 109 := by
    have := abs_mul hL r1
    have := abs_mul hc r4
    omega
  refine ⟨mulC_of hL r3, mulC_of (m := 5) (n := 4) (by omega) (by omega), mulC_of hnc r1, ?_⟩
  unfold rmB at q
  rw [show -(b * m) = -b * m from (Int.neg_mul ..).symm] at q
  refine br_d (fun g => ?_) fun g => ?_
  · rw [decide_eq_true g] at q
    walk_at "z"
    exact q _
  · rw [decide_eq_false g] at q
    walk_at "z"
    exact ⟨mulC_of hL hL, mulC_of (abs_mul hL hL) r2, mulC_of (m := 5) (n := 4) (by omega) (by omega), mulC_of hL r1, mulC_of (m := 5) (n := 4) (by omega) (by omega), mulC_of hc r4, mulC_of hc hs, q _⟩
theorem uh_cl {le ri lo hi z u : Int} {Q : D → List D → Prop} (hk : Knd b m) (r0 : le.natAbs < 2 ^ 104) (r1 : ri.natAbs < 2 ^ 104) (r3 : hi.natAbs < 2 ^ 104) (r4 : z.natAbs < 2 ^ 25) (ru : u.natAbs < 2 ^ 9) (q : ∀ as, Q (.bool (uhB (b * m) (b - 1) z le ri hi u)) as) :
    Cl F_upper_holds [.tuple [.int b, .int m], .int u, .tuple [.int le, .int ri, .int lo, .int hi, .int z]] Q := by
  obtain ⟨b0, b1, m0, m1⟩ := hk.b2
  have hc := c_sm hk
  have hL : (b - 1).natAbs < 2 ^ 4 := by omega
  have cl := abs_mul hc hL
  have cc := abs_mul hc hc
  have ll := abs_mul hL hL
  have hd : ((b - 1) * (b - 1) * hi - b * m * (b * m) * z).natAbs < 2 ^ 120 := by
    have := abs_mul ll r3
    have := abs_mul cc r4
    omega
  refine fn_cl rfl ?_
  unfold b_upper_holds
  walk_at "e"
  unfold uhB at q
  refine ⟨mulC_of (m := 5) (n := 4) (by omega) (by omega), mulC_of hL r3, mulC_of ru r1, ?_⟩
  refine br_d (fun g1 => ?_) fun g1 => ?_
  · walk_at "z"
    refine br_d (fun g2 => ?_) fun g2 => ?_
    · rw [if_pos ⟨g1, g2⟩] at q
      walk_at "z"
      exact q _
    · rw [if_neg (fun z => g2 z.2), if_neg g2] at q
      walk_at "z"
      refine br_n g2 ?_
      walk_at "z"
      refine ⟨mulC_of hc hL, mulC_of cl r0, mulC_of hc hc, mulC_of cc r4, mulC_of hL hL, mulC_of ll r3, ?_⟩
      refine br_d (fun g3 => ?_) fun g3 => ?_
      · rw [if_pos g3] at q
        walk_at "z"
        exact ⟨mulC_of hL r3, mulC_of ru r0, q _⟩
      rw [if_neg g3] at q
      walk_at "z"
      refine ⟨mulC_of hc hL, mulC_of cl r1, mulC_of hc hc, mulC_of cc r4, mulC_of hL hL, mulC_of ll r3, ?_⟩
      refine br_d (fun g4 => ?_) fun g4 => ?_
      · rw [if_pos g4] at q
        walk_at "z"
        exact ⟨mulC_of hc hL, mulC_of cl r1, mulC_of hc hc, mulC_of cc r4, mulC_of ru hL, mulC_of (abs_mul ru hL) r1, q _⟩
      rw [if_neg g4] at q
      walk_at "z"
      exact ⟨mulC_of hL hL, mulC_of ll r3, mulC_of (abs_mul ll r3) hc, mulC_of hL hL, mulC_of ll r3, mulC_of hc hc, mulC_of cc r4, mulC_of ru hd, q _⟩
  · rw [if_neg (fun z => g1 z.1)] at q
    walk_at "z"
    refine br_d (fun g2 => ?_) fun g2 => ?_
    · rw [if_pos g2] at q
      walk_at "z"
      exact ⟨mulC_of hc hL, mulC_of cl r1, mulC_of hc hc, mulC_of cc r4, mulC_of ru hL, mulC_of (abs_mul ru hL) r1, q _⟩
    · rw [if_neg g2] at q
      walk_at "z"
      refine ⟨mulC_of hc hL, mulC_of cl r0, mulC_of hc hc, mulC_of cc r4, mulC_of hL hL, mulC_of ll r3, ?_⟩
      refine br_d (fun g3 => ?_) fun g3 => ?_
      · rw [if_pos g3] at q
        walk_at "z"
        exact ⟨mulC_of hL r3, mulC_of ru r0, q _⟩
      rw [if_neg g3] at q
      walk_at "z"
      refine ⟨mulC_of hc hL, mulC_of cl r1, mulC_of hc hc, mulC_of cc r4, mulC_of hL hL, mulC_of ll r3, ?_⟩
      refine br_d (fun g4 => ?_) fun g4 => ?_
      · rw [if_pos g4] at q
        walk_at "z"
        exact ⟨mulC_of hc hL, mulC_of cl r1, mulC_of hc hc, mulC_of cc r4, mulC_of ru hL, mulC_of (abs_mul ru hL) r1, q _⟩
      rw [if_neg g4] at q
      walk_at "z"
      exact ⟨mulC_of hL hL, mulC_of ll r3, mulC_of (abs_mul ll r3) hc, mulC_of hL hL, mulC_of ll r3, mulC_of hc hc, mulC_of cc r4, mulC_of ru hd, q _⟩
theorem lh_cl {le ri lo hi z u : Int} {Q : D → List D → Prop} (hk : Knd b m) (r0 : le.natAbs < 2 ^ 104) (r1 : ri.natAbs < 2 ^ 104) (r3 : lo.natAbs < 2 ^ 104) (r4 : z.natAbs < 2 ^ 25) (ru : u.natAbs < 2 ^ 9) (q : ∀ as, Q (.bool (lhB (b * m) (b - 1) z le ri lo u)) as) :
    Cl F_lower_holds [.tuple [.int b, .int m], .int u, .tuple [.int le, .int ri, .int lo, .int hi, .int z]] Q := by
  obtain ⟨b0, b1, m0, m1⟩ := hk.b2
  have hc := c_sm hk
  have hL : (b - 1).natAbs < 2 ^ 4 := by omega
  have hnc : (-(b * m)).natAbs < 2 ^ 8 := by omega
  have hnl : (-(b - 1)).natAbs < 2 ^ 4 := by omega
  have cl := abs_mul hc hL
  have cc := abs_mul hc hc
  have ll := abs_mul hL hL
  have lu := abs_mul hL ru
  have uu := abs_mul ru ru
  have uz := abs_mul uu r4
  refine fn_cl rfl ?_
  unfold b_lower_holds
  walk_at "e"
  unfold lhB at q
  refine ⟨mulC_of (m := 5) (n := 4) (by omega) (by omega), ?_⟩
  refine br_d (fun g1 => ?_) fun g1 => ?_
  · rw [if_pos g1] at q
    walk_at "z"
    exact ⟨mulC_of hL hL, mulC_of ll r3, mulC_of hL ru, mulC_of lu r1, mulC_of ru ru, mulC_of uu r4, q _⟩
  rw [if_neg g1] at q
  walk_at "z"
  refine ⟨mulC_of hL r3, mulC_of hnc r0, ?_⟩
  refine br_d (fun g2 => ?_) fun g2 => ?_
  · rw [if_pos g2] at q
    walk_at "z"
    exact ⟨mulC_of hL hL, mulC_of ll r3, mulC_of hL ru, mulC_of lu r0, mulC_of ru ru, mulC_of uu r4, q _⟩
  rw [if_neg g2] at q
  walk_at "z"
  refine ⟨mulC_of hL r3, mulC_of hnc r1, ?_⟩
  refine br_d (fun g3 => ?_) fun g3 => ?_
  · rw [if_pos g3] at q
    walk_at "z"
    exact ⟨mulC_of hnc hL, mulC_of (abs_mul hnc hL) r1, mulC_of hL ru, mulC_of lu r1, mulC_of ru ru, mulC_of uu r4, q _⟩
  rw [if_neg g3] at q
  walk_at "z"
  exact ⟨mulC_of hL hL, mulC_of ll r3, mulC_of (abs_mul ll r3) hc, mulC_of hnl hL, mulC_of (abs_mul hnl hL) ru, mulC_of (abs_mul (abs_mul hnl hL) ru) r3, mulC_of ru ru, mulC_of uu r4, mulC_of uz hc, q _⟩
/-- the figures that are told to be good for roots: all where there is nothing -/
def rootG (b m : Int) (T P fr : Nat) (t l : Int) : List Int := if (ringE b m T P fr t l).isEmpty then (List.range (2 * m + 1).toNat).map (fun k : Nat => -m + (k : Int)) else rgN (b - 1) m (zQ T P) (ringE b m T P fr t l) (2 * m + 1).toNat
theorem ring_all (hk : Knd b m) (h : CelG b m T P fr t l) (hm : rmQ (b * m) (b - 1) (zQ T P) (riQ b T P fr t) (loE b T fr l) (loE b T fr (l + 1))) {f : Int} (f0 : -m ≤ f) (f1 : f ≤ m) :
    (ringE b m T P fr t l).all (rokB (b - 1) m (zQ T P) f) = ((decide (f = m) || uhB (b * m) (b - 1) (zQ T P) (leQ b T P fr t) (riQ b T P fr t) (loE b T fr (l + 1)) (f * (b - 1) + m)) && (decide (f = -m) || lhB (b * m) (b - 1) (zQ T P) (leQ b T P fr t) (riQ b T P fr t) (loE b T fr l) (f * (b - 1) - m))) := by
  obtain ⟨b0, b1, m0, m1⟩ := hk.b2
  have hsd := h.sd hk
  rw [Bool.eq_iff_iff]
  simp only [List.all_eq_true, Bool.and_eq_true, Bool.or_eq_true, decide_eq_true_eq]
  have hu : ¬ f = m → f * (b - 1) + m < b * m := fun z => by
    have := Int.mul_le_mul_of_nonneg_right (show f ≤ m - 1 by omega) (show 0 ≤ b - 1 by omega)
    have e : (m - 1) * (b - 1) = b * m - m - (b - 1) := by grind
    omega
  have hl : ¬ f = -m → -(b * m) < f * (b - 1) - m := fun z => by
    have := Int.mul_le_mul_of_nonneg_right (show -m + 1 ≤ f by omega) (show 0 ≤ b - 1 by omega)
    have e : (-m + 1) * (b - 1) = m - b * m + (b - 1) := by grind
    omega
  have key : (∀ p ∈ ringE b m T P fr t l, rokB (b - 1) m (zQ T P) f p = true) ↔ (¬ f = m → ∀ p ∈ ringE b m T P fr t l, (b - 1) * p.2.1 ≤ (f * (b - 1) + m) * p.1) ∧ (¬ f = -m → ∀ p ∈ ringE b m T P fr t l, (b - 1) * (f * (b - 1) - m) * p.1 + (f * (b - 1) - m) * (f * (b - 1) - m) * zQ T P * p.2.2 ≤ (b - 1) * (b - 1) * p.2.1) := by
    constructor
    · intro hh
      refine ⟨fun z p hp => ?_, fun z p hp => ?_⟩
      · have := hh p hp
        unfold rokB at this
        rw [decide_eq_true z] at this
        simp only [Bool.and_eq_true, Bool.true_and, Bool.not_eq_true', decide_eq_false_iff_not] at this
        omega
      · have := hh p hp
        unfold rokB at this
        rw [decide_eq_true (show ¬ f = 0 - m by omega)] at this
        simp only [Bool.and_eq_true, Bool.true_and, Bool.not_eq_true', decide_eq_false_iff_not] at this
        omega
    · rintro ⟨h1, h2⟩ p hp
      unfold rokB
      simp only [Bool.and_eq_true, Bool.not_eq_true', Bool.and_eq_false_iff, decide_eq_false_iff_not]
      refine ⟨?_, ?_⟩
      · by_cases z : f = m
        · exact .inl fun hh => hh z
        · exact .inr (Int.not_lt.mpr (h1 z p hp))
      · by_cases z : f = -m
        · exact .inl fun hh => hh (by omega)
        · exact .inr (Int.not_lt.mpr (h2 z p hp))
  rw [key]
  refine and_congr ?_ ?_
  · by_cases z : f = m
    · simp [z]
    · have := (up_ring hsd hm (hu z)).trans (uh_up hsd (hu z)).symm
      constructor
      · exact fun hh => .inr (this.mp (hh z))
      · rintro (hh | hh)
        · exact absurd hh z
        · exact fun _ => this.mpr hh
  · by_cases z : f = -m
    · simp [z]
    · have := (lo_ring hsd hm (hl z)).trans (lh_lo hsd (hl z)).symm
      constructor
      · exact fun hh => .inr (this.mp (hh z))
      · rintro (hh | hh)
        · exact absurd hh z
        · exact fun _ => this.mpr hh
theorem ring_emp (hk : Knd b m) (h : CelG b m T P fr t l) : (ringE b m T P fr t l).isEmpty = !rmB (b * m) (b - 1) (zQ T P) (riQ b T P fr t) (loE b T fr l) (loE b T fr (l + 1)) := by
  have hsd := h.sd hk
  cases e : rmB (b * m) (b - 1) (zQ T P) (riQ b T P fr t) (loE b T fr l) (loE b T fr (l + 1)) with
  | true =>
    have := ring_ne hsd (rmB_iff.mp e)
    unfold ringE
    simpa using this
  | false =>
    unfold ringE
    cases e2 : ringQ (b * m) (b - 1) (zQ T P) (leQ b T P fr t) (riQ b T P fr t) (loE b T fr l) (loE b T fr (l + 1)) with
    | nil => rfl
    | cons p r =>
      have := rmB_iff.mpr (ring_met hsd (p := p) (by rw [e2]; simp))
      rw [e] at this
      cases this
theorem rootg_cl {Q : D → List D → Prop} (hk : Knd b m) (h : CelG b m T P fr t l) (q : ∀ as, Q (.list ((rootG b m T P fr t l).map .int)) as) :
    Cl F_root_good [.tuple [.int b, .int m], .tuple [.int T, .int P], .int fr, .tuple [.int t, .int l]] Q := by
  obtain ⟨b0, b1, m0, m1⟩ := hk.b2
  have r0 := le_sm h.c
  have r1 := ri_sm h.c
  have r2 := lo_sm h.c
  have r3 := hi_sm h.c
  have r4 := z_sm h.c
  have hem := ring_emp hk h
  have hal := fun hm f f0 f1 => ring_all (f := f) hk h hm f0 f1
  refine fn_cl rfl ?_
  unfold b_root_good
  walk_at "e"
  refine ⟨?_, ?_⟩
  · unfold rgC
    exact decide_eq_true (by omega)
  refine met_cl hk h.c fun as => ?_
  walk_at "z"
  unfold rootG at q
  rw [hem] at q
  refine br_i (fun g => ?_) fun g => ?_
  · rw [g, if_pos rfl, List.map_map] at q
    walk_at "z"
    have e : rgD (-m) (m + 1) = (List.range (2 * m + 1).toNat).map (PyData.int ∘ fun k : Nat => -m + (k : Int)) := by
      unfold rgD
      rw [show (m + 1 - -m).toNat = (2 * m + 1).toNat by omega]
      rfl
    rw [e]
    exact q _
  rw [g, if_neg (by decide)] at q
  have hm := rmB_iff.mp (show rmB (b * m) (b - 1) (zQ T P) (riQ b T P fr t) (loE b T fr l) (loE b T fr (l + 1)) = true by simpa using g)
  replace hal := hal hm
  clear hem g hm
  walk_at "z"
  refine edges_cl h.c fun as => ?_
  unfold sd5
  walk_at "z"
  generalize ringE b m T P fr t l = ring at *
  generalize leQ b T P fr t = le at *
  generalize riQ b T P fr t = ri at *
  generalize loE b T fr l = lo at *
  generalize loE b T fr (l + 1) = hg at *
  generalize zQ T P = z at *
  have hL : (b - 1).natAbs < 2 ^ 4 := by omega
  show Fo (rgD (-m) (m + 1)) _ _ _ _ _ _ _ _
  refine for_rg (fun i s => ∃ x7 x10 x11, s = [some (.tuple [.int b, .int m]), some (.tuple [.int T, .int P]), some (.int fr), some (.tuple [.int t, .int l]), some (.list (rgD (-m) (m + 1))), some (.tuple [.int le, .int ri, .int lo, .int hg, .int z]), some (.list ((rgN (b - 1) m z ring i).map .int)), x7, some (.int b), some (.int m), x10, x11]) ⟨_, _, _, rfl⟩ ?_ ?_
  · rintro i _ hi ⟨x7, x10, x11, rfl⟩
    have hf : (-m + (i : Int)).natAbs < 2 ^ 4 := by omega
    have hfl := abs_mul hf hL
    have ha := hal (-m + i) (by omega) (by omega)
    walk_at "z"
    refine br_orV (decide (-m + (i : Int) = m) || uhB (b * m) (b - 1) z le ri hg ((-m + (i : Int)) * (b - 1) + m)) (fun g => by rw [g]; rfl) (fun g => ?_) ?_
    · rw [g]
      walk_at "z"
      refine ⟨mulC_of hf hL, ?_⟩
      refine uh_cl hk r0 r1 r3 r4 (by omega) fun as => ?_
      walk_at "z"
      simp
    walk_at "z"
    refine br_orV (decide (-m + (i : Int) = -m) || lhB (b * m) (b - 1) z le ri lo ((-m + (i : Int)) * (b - 1) - m)) (fun g => by rw [g]; rfl) (fun g => ?_) ?_
    · rw [g]
      walk_at "z"
      refine ⟨mulC_of hf hL, ?_⟩
      refine lh_cl hk r0 r1 r2 r4 (by omega) fun as => ?_
      walk_at "z"
      simp
    walk_at "z"
    have e0 : (0 : Int) - m + (i : Int) = -m + i := by omega
    have hn := rgN_len (L := b - 1) (m := m) (z := z) (ring := ring) (n := i)
    generalize (decide (-m + (i : Int) = m) || uhB (b * m) (b - 1) z le ri hg ((-m + (i : Int)) * (b - 1) + m)) = A at *
    generalize (decide (-m + (i : Int) = -m) || lhB (b * m) (b - 1) z le ri lo ((-m + (i : Int)) * (b - 1) - m)) = B at *
    have e1 : rgN (b - 1) m z ring (i + 1) = rgN (b - 1) m z ring i ++ (if (A && B) = true then [-m + (i : Int)] else []) := by rw [rgN_succ, e0, ha]
    rw [e1]
    refine br_i (fun gA => ?_) fun gA => ?_
    · walk_at "z"
      refine br_i (fun gB => ?_) fun gB => ?_
      · walk_at "z"
        rw [show (if (A && B) = true then [-m + (i : Int)] else []) = [-m + (i : Int)] by rw [gA, gB]; rfl, List.map_append]
        exact ⟨decide_eq_true (by unfold sizeLine; rw [List.length_map]; omega), _, _, _, rfl⟩
      · walk_at "z"
        rw [show (if (A && B) = true then [-m + (i : Int)] else []) = [] by rw [gA, gB]; rfl, List.append_nil]
        exact ⟨_, _, _, rfl⟩
    · walk_at "z"
      rw [show (if (A && B) = true then [-m + (i : Int)] else []) = [] by rw [gA]; rfl, List.append_nil]
      exact ⟨_, _, _, rfl⟩
  · rintro _ ⟨x7, x10, x11, rfl⟩
    walk_at "z"
    rw [show (m + 1 - -m).toNat = (2 * m + 1).toNat by omega]
    exact q _
end
end S
set_option Elab.async false
set_option linter.all false
set_option maxRecDepth 100000
set_option maxHeartbeats 1000000
namespace S
open PySem L2 Z
local macro_rules | `(tactic| walk_at "z") => `(tactic| try simp (config := { dsimp := false }) only [↓run_nx, ↓run_no, ↓run_bk, ↓run_ct, ↓run_seq, ↓run_set, ↓run_drop, ↓run_ret, ↓run_asg, ↓run_app, ↓run_put, ↓run_aug, ↓run_frz, ↓run_kill, ↓xr_if, ↓ev_lc, ↓ev_yes, ↓run_ext, ↓ev_enum, ↓run_asgT, ↓run_retM, ↓run_fld, ↓ev_fld, ↓ev_at, ↓xv_callG, ↓xv_tupG, ↓xv_meth, ↓xv_make, ↓ev_move, so_tof, so_nonO, so_fillN, so_fillE, so_fillS, bkG0, bkGE, bkGF, bkGT, stD0, stDC, so_dof, so_noFd, fdN, fdC, fdE, fdO, ptN, ptC, ptE, ptO, nm_ahead_end, nm_ahead_ended, nm_ahead_figures, nm_ahead_is_figure, nm_ahead_kind, nm_ahead_last, nm_ahead_parted, nm_ahead_put, nm_ahead_told, nm_ask_cell_kind, nm_ask_cell_looks, nm_ask_cell_sight, nm_ask_cell_table, nm_base_below, nm_base_held, nm_base_put, nm_base_under, nm_base_upper, nm_begin_done, nm_begin_figures, nm_begin_great, nm_begin_kind, nm_begin_left, nm_begin_looks, nm_begin_numbers, nm_begin_rows, nm_begin_seen, nm_begin_stand, nm_begin_wide, nm_begin_works, nm_begin_rows_done, nm_begin_rows_kind, nm_begin_rows_looks, nm_begin_rows_rows, nm_begin_rows_seen, nm_begin_rows_works, nm_below_base, nm_below_under, nm_below_upper, nm_deeds_done, nm_deeds_kind, nm_deeds_looks, nm_deeds_rows, nm_deeds_seen, nm_deeds_works, nm_divided_kind, nm_divided_looks, nm_divided_sight, nm_divided_table, nm_done_begin, nm_done_begin_rows, nm_done_deeds, nm_done_entries, nm_done_go, nm_done_kind, nm_done_looked, nm_done_looks, nm_done_put, nm_done_rest, nm_done_row, nm_done_rows, nm_done_seen, nm_done_work, nm_done_works, nm_done_wrong, nm_end_ahead, nm_end_ended, nm_end_figures, nm_end_kind, nm_end_last, nm_ended_ahead, nm_ended_end, nm_ended_figures, nm_ended_is_figure, nm_ended_kind, nm_ended_last, nm_ended_parted, nm_ended_put, nm_ended_told, nm_entered_kind, nm_entered_looks, nm_entered_sight, nm_entered_table, nm_entries_done, nm_entries_kind, nm_entries_looks, nm_entries_rows, nm_entries_seen, nm_entries_works, nm_figures_ahead, nm_figures_begin, nm_figures_end, nm_figures_ended, nm_figures_great, nm_figures_is_figure, nm_figures_kind, nm_figures_last, nm_figures_left, nm_figures_looks, nm_figures_numbers, nm_figures_parted, nm_figures_put, nm_figures_rest, nm_figures_stand, nm_figures_told, nm_figures_tried, nm_figures_wide, nm_go_done, nm_go_kind, nm_go_looks, nm_go_rows, nm_go_seen, nm_go_works, nm_great_begin, nm_great_figures, nm_great_kind, nm_great_left, nm_great_looks, nm_great_numbers, nm_great_rest, nm_great_stand, nm_great_tried, nm_great_wide, nm_held_base, nm_held_under, nm_held_upper, nm_is_figure_ahead, nm_is_figure_ended, nm_is_figure_figures, nm_is_figure_kind, nm_is_figure_last, nm_kind_ahead, nm_kind_ask_cell, nm_kind_begin, nm_kind_begin_rows, nm_kind_deeds, nm_kind_divided, nm_kind_done, nm_kind_end, nm_kind_ended, nm_kind_entered, nm_kind_entries, nm_kind_figures, nm_kind_go, nm_kind_great, nm_kind_is_figure, nm_kind_last, nm_kind_left, nm_kind_looked, nm_kind_looks, nm_kind_numbers, nm_kind_parted, nm_kind_put, nm_kind_put_all, nm_kind_rest, nm_kind_row, nm_kind_rows, nm_kind_say, nm_kind_seen, nm_kind_sight, nm_kind_stand, nm_kind_table, nm_kind_told, nm_kind_tried, nm_kind_turned, nm_kind_wide, nm_kind_work, nm_kind_works, nm_kind_wrong, nm_last_ahead, nm_last_end, nm_last_ended, nm_last_figures, nm_last_is_figure, nm_last_kind, nm_last_parted, nm_last_put, nm_last_told, nm_left_begin, nm_left_figures, nm_left_great, nm_left_kind, nm_left_looks, nm_left_numbers, nm_left_rest, nm_left_stand, nm_left_tried, nm_left_wide, nm_look_top, nm_looked_done, nm_looked_kind, nm_looked_looks, nm_looked_rows, nm_looked_seen, nm_looked_sight, nm_looked_table, nm_looked_works, nm_looks_ask_cell, nm_looks_begin, nm_looks_begin_rows, nm_looks_deeds, nm_looks_divided, nm_looks_done, nm_looks_entered, nm_looks_entries, nm_looks_figures, nm_looks_go, nm_looks_great, nm_looks_kind, nm_looks_left, nm_looks_looked, nm_looks_numbers, nm_looks_put, nm_looks_put_all, nm_looks_rest, nm_looks_row, nm_looks_rows, nm_looks_say, nm_looks_seen, nm_looks_sight, nm_looks_stand, nm_looks_table, nm_looks_told, nm_looks_tried, nm_looks_turned, nm_looks_wide, nm_looks_work, nm_looks_works, nm_looks_wrong, nm_numbers_begin, nm_numbers_figures, nm_numbers_great, nm_numbers_kind, nm_numbers_left, nm_numbers_looks, nm_numbers_rest, nm_numbers_stand, nm_numbers_tried, nm_numbers_wide, nm_parted_ahead, nm_parted_ended, nm_parted_figures, nm_parted_kind, nm_parted_last, nm_put_ahead, nm_put_base, nm_put_done, nm_put_ended, nm_put_figures, nm_put_kind, nm_put_last, nm_put_looks, nm_put_rows, nm_put_seen, nm_put_under, nm_put_upper, nm_put_works, nm_put_all_kind, nm_put_all_looks, nm_put_all_sight, nm_put_all_table, nm_rest_done, nm_rest_figures, nm_rest_great, nm_rest_kind, nm_rest_left, nm_rest_looks, nm_rest_numbers, nm_rest_rows, nm_rest_seen, nm_rest_stand, nm_rest_wide, nm_rest_works, nm_row_done, nm_row_kind, nm_row_looks, nm_row_rows, nm_row_seen, nm_row_works, nm_rows_begin, nm_rows_begin_rows, nm_rows_deeds, nm_rows_done, nm_rows_entries, nm_rows_go, nm_rows_kind, nm_rows_looked, nm_rows_looks, nm_rows_put, nm_rows_rest, nm_rows_row, nm_rows_seen, nm_rows_work, nm_rows_works, nm_rows_wrong, nm_say_kind, nm_say_looks, nm_say_sight, nm_say_table, nm_seen_begin, nm_seen_begin_rows, nm_seen_deeds, nm_seen_done, nm_seen_entries, nm_seen_go, nm_seen_kind, nm_seen_looked, nm_seen_looks, nm_seen_put, nm_seen_rest, nm_seen_row, nm_seen_rows, nm_seen_work, nm_seen_works, nm_seen_wrong, nm_sight_ask_cell, nm_sight_divided, nm_sight_entered, nm_sight_kind, nm_sight_looked, nm_sight_looks, nm_sight_put_all, nm_sight_say, nm_sight_table, nm_sight_told, nm_sight_turned, nm_stand_begin, nm_stand_figures, nm_stand_great, nm_stand_kind, nm_stand_left, nm_stand_looks, nm_stand_numbers, nm_stand_rest, nm_stand_tried, nm_stand_wide, nm_table_ask_cell, nm_table_divided, nm_table_entered, nm_table_kind, nm_table_looked, nm_table_looks, nm_table_put_all, nm_table_say, nm_table_sight, nm_table_told, nm_table_turned, nm_told_ahead, nm_told_ended, nm_told_figures, nm_told_kind, nm_told_last, nm_told_looks, nm_told_sight, nm_told_table, nm_top_look, nm_tried_figures, nm_tried_great, nm_tried_kind, nm_tried_left, nm_tried_looks, nm_tried_numbers, nm_tried_stand, nm_tried_wide, nm_turned_kind, nm_turned_looks, nm_turned_sight, nm_turned_table, nm_under_base, nm_under_below, nm_under_held, nm_under_put, nm_under_upper, nm_upper_base, nm_upper_below, nm_upper_held, nm_upper_put, nm_upper_under, nm_wide_begin, nm_wide_figures, nm_wide_great, nm_wide_kind, nm_wide_left, nm_wide_looks, nm_wide_numbers, nm_wide_rest, nm_wide_stand, nm_wide_tried, nm_work_done, nm_work_kind, nm_work_looks, nm_work_rows, nm_work_seen, nm_work_works, nm_works_begin, nm_works_begin_rows, nm_works_deeds, nm_works_done, nm_works_entries, nm_works_go, nm_works_kind, nm_works_looked, nm_works_looks, nm_works_put, nm_works_rest, nm_works_row, nm_works_rows, nm_works_seen, nm_works_work, nm_works_wrong, nm_wrong_done, nm_wrong_kind, nm_wrong_looks, nm_wrong_rows, nm_wrong_seen, nm_wrong_works, sz1, sz2, sz3, sz4, sz5, sz6, sz7, sz8, sz9, sz10, sz11, true_and, ↓run_putP, ↓run_appP, ↓ev_plR, ↓ev_plIx, ↓ev_fz, ↓ev_rep, ↓run_fo, ↓run_wh, ↓ev_ok, ↓ev_opt, ↓ev_var, ↓ev_C, ↓ev_V, ↓ev_slot, ↓ev_op, ↓ev_un, ↓ev_B, ↓ev_not, ↓ev_notV, ↓ev_nil, ↓ev_cons, ↓ev_nilB, ↓ev_consB, ↓ev_tup, ↓ev_lst, ↓ev_B1, ↓ev_sl, ↓ev_P0, ↓ev_P1, ↓ev_Rg1, ↓ev_Rg2, ↓ev_LstRg, ↓ev_It, ↓ev_R1, ↓ev_R2, ↓xv_and, ↓xv_or, ↓xv_andV, ↓xv_orV, ↓xv_if, ↓xv_chain, ↓xv_call, ↓xv_call1, ↓xv_callT, hdC, br_t, br_f, so_some, so_none, so_mapN, so_mapC, lks_eq, rg_z, rg_s, lk0, lkS, st0, stS, entry0, entryS, rep0, repS, res_val, res_slot, so_add, so_sub, so_addN, so_subN, so_mul, so_div, so_mod, so_pow, so_shl, so_shr, so_and, so_or, so_xor, so_lt, so_le, so_gt, so_ge, so_eqI, so_neI, so_neg, so_isN, so_notN, non_n, non_i, non_t, non_l, non_b, non_s, so_ixL, so_ixT, at0, at1, at2, at3, ix0, ix1, ix2, ixN30, ixN31, ixN32, so_tru, so_iof, so_lof, so_itL, so_itT, so_r1, so_r2, so_abs, so_max, so_min, so_intB, so_intI, ii_i, ib_i, ib_b, ii_b, it_t, it_l, il_l, il_t, so_cat, so_inL, so_inT, so_ninL, so_ninT, so_maxI, so_maxT, so_rev, so_bits, so_en, wpD0, wpDC, bk0, bkC, oat0, oatS, so_catD, so_isBl, so_notBl, so_listOfL, so_listOfT, so_listL, so_listT, so_tupL, so_tupT, mx0, mxC, fz0, fzC, flO, flN, noL_i, noL_n, noL_b, noL_s, noL_t, noLs_n, noLs_c, Bool.and_true, Bool.and_self, getP0, setP0, so_ixP0, so_getP1, so_slL, so_lenL, so_lenT, so_gN, Int.cast_ofNat_Int, so_gT, so_gL, so_gC, so_gE, Int.toNat_natCast, Int.one_mul, modC_eq, shrC_eq, powC_eq, fits0, fits1, fits2, fits3, fits4, fits5, fits6, fits7, fits8, fits9, fits10, fits11, fits12, fits13, fits14, fits15, fits16, rngC_eq, List.length_cons, List.length_nil, Nat.reduceAdd, Nat.zero_add, List.set_cons_zero, List.set_cons_succ, true_and, and_true, decide_true, decide_false, Bool.not_true, Bool.not_false, Int.reduceLT, Int.reduceSub, Int.reduceAdd, Int.reduceMul, Int.reduceNeg, Int.reduceDiv, Int.reduceMod, Int.reduceEq, Int.reduceLE, Int.reduceToNat, Int.reducePow, nab10, nab2, eq_self])
local macro_rules | `(tactic| walk_at "e") => `(tactic| (simp (config := { dsimp := false }) only [entryS, entry0, repS, rep0]; walk_at "z"))
theorem rootG_len {b m : Int} {T P fr : Nat} {t l : Int} : (rootG b m T P fr t l).length ≤ (2 * m + 1).toNat := by
  unfold rootG
  split
  · simp
  · exact rgN_len
theorem law_true (ns : List Int) (hl : ns.length ≤ 63) : ∃ as, F_law [scr ns] = .ok (.bool true) as := by
  suffices h : Cl F_law [scr ns] fun d _ => d = .bool true by
    obtain ⟨d, as, e, rfl⟩ := h.out
    exact ⟨as, e⟩
  refine fn_cl rfl ?_
  unfold b_law scr
  walk_at "e"
  refine ⟨by rw [fits_eq, List.length_map]; omega, ?_⟩
  obtain ⟨z, hz⟩ := first_at ns
  rw [hz]
  walk_at "z"
  refine deck_cl (n := 0) (by omega) (by omega) fun e h => ?_
  walk_at "z"
  refine kind_cl h (by omega) fun b m e hk h => ?_
  obtain ⟨b0, b1, m0, m1⟩ := hk.b2
  obtain ⟨k0, k1, k2⟩ := hk.bits
  have hbl : Builtin.Int.intBits b = bitsN b + 1 := by
    refine bits_is (by omega) ?_ ?_
    · rw [Nat.add_sub_cancel, k0]; omega
    · rw [Int.pow_succ, k0]; omega
  walk_at "z"
  refine pick_cl h (by omega) divL fun v1 e v10 v11 h => ?_
  walk_at "z"
  refine pick_cl h (by omega) divL fun v2 e v20 v21 h => ?_
  obtain ⟨T, eT, T0, T1⟩ : ∃ T : Nat, 1 + v1 = (T : Int) ∧ 1 ≤ T ∧ T ≤ 6 := ⟨(1 + v1).toNat, by omega, by omega, by omega⟩
  obtain ⟨P, eP, P1⟩ : ∃ P : Nat, v2 = (P : Int) ∧ P ≤ 5 := ⟨v2.toNat, by omega, by omega⟩
  rw [eT]
  subst eP
  walk_at "z"
  rw [hbl]
  refine pick_cl h (by omega) divL fun v3 e v30 v31 h => ?_
  walk_at "z"
  refine pick_cl h (by omega) divL fun v4 e v40 v41 h => ?_
  walk_at "z"
  refine pick_cl h (by omega) divL fun v5 e v50 v51 h => ?_
  walk_at "z"
  refine so_atP (fun d => ∃ y : Int, d = .int y ∧ 0 ≤ y ∧ y ≤ 20) v50 (by simpa using v51) ?_ ?_
  · simp only [List.mem_cons, List.not_mem_nil, or_false]
    rintro x (rfl | rfl)
    · exact ⟨_, rfl, by omega, by omega⟩
    · exact ⟨_, rfl, by omega, by omega⟩
  rintro _ ⟨y, rfl, y0, y1⟩
  walk_at "z"
  have hX : ∀ X : Int, X = (if ((bitsN b + 1 : Nat) : Int) - 1 + P - 2 > 2 then ((bitsN b + 1 : Nat) : Int) - 1 + P - 2 else 2) → 2 ≤ X ∧ X ≤ 20 := fun X h => by
    subst h
    split <;> omega
  obtain ⟨x1, x2⟩ := hX _ rfl
  generalize (if ((bitsN b + 1 : Nat) : Int) - 1 + P - 2 > 2 then ((bitsN b + 1 : Nat) : Int) - 1 + P - 2 else 2) = X at *
  obtain ⟨fr, ef, f0, f1⟩ : ∃ fr : Nat, X + y = (fr : Int) ∧ 2 ≤ fr ∧ fr ≤ 60 := ⟨(X + y).toNat, by omega, by omega, by omega⟩
  rw [ef]
  refine half_cl b0 b1 (by omega) fun as => ?_
  walk_at "z"
  have hcut := cut_len (l := ns.map PyData.int) (lo := some 1) (hi := some 11)
  rw [List.length_map] at hcut
  have hp5 : (2 : Int) ^ P ≤ 2 ^ 5 := by rw [nap2, nap2]; exact Int.ofNat_le.mpr (Nat.pow_le_pow_right (by omega) P1)
  have hp0 := pow2_pos P
  have hT6 : (2 : Int) ^ T ≤ 2 ^ 6 := by rw [nap2, nap2]; exact Int.ofNat_le.mpr (Nat.pow_le_pow_right (by omega) T1)
  have hT0 := pow2_pos T
  have hT5 : (2 : Int) ^ (T - 1) ≤ 2 ^ 5 := by rw [nap2, nap2]; exact Int.ofNat_le.mpr (Nat.pow_le_pow_right (by omega) (by omega))
  have hT00 := pow2_pos (T - 1)
  have hb5 : b * 2 ^ P ≤ 16 * 2 ^ 5 := Int.mul_le_mul b1 hp5 (by omega) (by omega)
  have hb0 : 0 < b * 2 ^ P := Int.mul_pos (by omega) hp0
  generalize eH : b * 2 ^ P + 2 = H at *
  refine ⟨by rw [fits_eq]; omega, for_it (fun i s => ∃ x1 x6 x7 x8 x9 x10 x11 x12 x13, s = [some (.list (ns.map .int)), x1, some (.tuple [.int b, .int m]), some (.tuple [.int T, .int P]), some (.int fr), some (.int H), x6, x7, x8, x9, x10, x11, x12, x13]) ⟨_, _, _, _, _, _, _, _, _, rfl⟩ ?_ ?_⟩
  · rintro i d _ hd ⟨x1, x6, x7, x8, x9, x10, x11, x12, x13, rfl⟩
    obtain ⟨z, rfl⟩ := ints_item hd
    walk_at "z"
    refine deck_cl (n := 170) (by omega) (by omega) fun e1 h1 => ?_
    walk_at "z"
    refine ⟨shl1C' T0 (by omega), shl1C' T0 (by omega), ?_⟩
    rw [show ((T : Int) - 1).toNat = T - 1 by omega]
    refine pick_cl h1 (by omega) (divC_of (n := 8) (by omega) (by omega)) fun v e2 g0 g1 h2 => ?_
    walk_at "z"
    obtain ⟨tp, etp⟩ : ∃ tp : Int, 2 ^ (T - 1) + v = tp := ⟨_, rfl⟩
    have ht0 : (2 : Int) ^ (T - 1) ≤ tp := by omega
    have ht1 : tp < 2 ^ 6 := by omega
    rw [etp]
    have hc := c_sm hk
    have a1 : (tp + 1).natAbs < 2 ^ 7 := by omega
    have a2 : ((2 : Int) ^ P).natAbs < 2 ^ 6 := by omega
    have a3 : ((2 : Int) ^ T).natAbs < 2 ^ 7 := by omega
    have a4 : (b - 1).natAbs < 2 ^ 4 := by omega
    have a5 := Int.mul_pos (show 0 < b - 1 by omega) hT0
    refine ⟨mulC_of (m := 5) (n := 4) (by omega) (by omega), mulC_of hc a1, shl1C (by omega), mulC_of (abs_mul hc a1) a2, shl1C (by omega), mulC_of a4 a3, divC_of a5 (abs_mul a4 a3), ?_⟩
    refine ⟨mulC_of (m := 2) (n := 10) (by decide) (by omega), ?_⟩
    generalize b * m * (tp + 1) * 2 ^ P / ((b - 1) * 2 ^ T) = E
    refine pick_cl h2 (by omega) (divC_of (n := 12) (by omega) (by omega)) fun w1 e2 w10 w11 h2 => ?_
    walk_at "z"
    refine pick_cl h2 (by omega) divL fun w2 e2 w20 w21 h2 => ?_
    walk_at "z"
    refine pick_cl h2 (by omega) divL fun w3 e2 w30 w31 h2 => ?_
    walk_at "z"
    refine pick_cl h2 (by omega) divL fun w4 e2 w40 w41 h2 => ?_
    walk_at "z"
    refine pick_cl h2 (by omega) divL fun w5 e2 w50 w51 h2 => ?_
    walk_at "z"
    refine so_atP (fun d => ∃ y : Int, d = .int y) w50 (by simpa using w51) ?_ ?_
    · simp only [List.cons_append, List.nil_append, List.mem_cons, List.not_mem_nil, or_false]
      rintro x (rfl | rfl | rfl | rfl) <;> exact ⟨_, rfl⟩
    rintro _ ⟨lk, rfl⟩
    walk_at "z"
    obtain ⟨L, eL, L0, L1⟩ : ∃ L : Int, (if (if lk < H - 1 then lk else H - 1) > 0 - H then if lk < H - 1 then lk else H - 1 else 0 - H) = L ∧ -H ≤ L ∧ L < H := ⟨_, rfl, by split <;> split <;> omega, by split <;> split <;> omega⟩
    rw [eL]
    have hG : CelG b m T P fr tp L := ⟨⟨b0, b1, by omega, by omega, f1, by omega, by omega⟩, T0, f0, ht0⟩
    refine rgood_cl hk hG.c fun as => ?_
    by_cases he : (ringE b m T P fr tp L).isEmpty = true
    · have e1' : rgoodD b m T P fr tp L = .none := by unfold rgoodD; rw [if_pos he]
      have e2' : rgD (0 - m) (m + 1) = (rootG b m T P fr tp L).map .int := by
        unfold rootG rgD
        rw [if_pos he, List.map_map, show (m + 1 - (0 - m)).toNat = (2 * m + 1).toNat by omega]
        exact List.map_congr_left fun k _ => by show PyData.int (0 - m + (k : Int)) = PyData.int (-m + (k : Int)); rw [show 0 - m + (k : Int) = -m + k by omega]
      rw [e1']
      walk_at "z"
      refine ⟨by rw [rgC_eq]; omega, ?_⟩
      rw [e2']
      refine for_r0 (fun i s => ∃ x12 x13, s = [some (.list (ns.map .int)), some e2, some (.tuple [.int b, .int m]), some (.tuple [.int T, .int P]), some (.int fr), some (.int H), some (.int z), some (.int tp), some (.int E), some (.list [.int (w1 - H), .int (E + w2 - 2), .int (1 - E - w3), .int (w4 - 4)]), some (.tuple [.int tp, .int L]), some (.list ((rootG b m T P fr tp L).map .int)), x12, x13]) ⟨_, _, rfl⟩ ?_ ?_
      · rintro k _ _ ⟨x12, x13, rfl⟩
        walk_at "z"
        refine rootg_cl hk hG fun as => ?_
        walk_at "z"
        refine so_ne_s (n := 1) (shp_ints _) ?_
        walk_at "z"
        have hgl := rootG_len (b := b) (m := m) (T := T) (P := P) (fr := fr) (t := tp) (l := L)
        exact ⟨decide_eq_true (by unfold sizeLine; rw [List.length_map]; omega), _, _, rfl⟩
      · rintro _ ⟨x12, x13, rfl⟩
        exact ⟨_, _, _, _, _, _, _, _, _, rfl⟩
    · have e1' : rgoodD b m T P fr tp L = .list ((rootG b m T P fr tp L).map .int) := by unfold rgoodD rootG; rw [if_neg he, if_neg he]
      rw [e1']
      walk_at "z"
      refine for_r0 (fun i s => ∃ x12 x13, s = [some (.list (ns.map .int)), some e2, some (.tuple [.int b, .int m]), some (.tuple [.int T, .int P]), some (.int fr), some (.int H), some (.int z), some (.int tp), some (.int E), some (.list [.int (w1 - H), .int (E + w2 - 2), .int (1 - E - w3), .int (w4 - 4)]), some (.tuple [.int tp, .int L]), some (.list ((rootG b m T P fr tp L).map .int)), x12, x13]) ⟨_, _, rfl⟩ ?_ ?_
      · rintro k _ _ ⟨x12, x13, rfl⟩
        walk_at "z"
        refine rootg_cl hk hG fun as => ?_
        walk_at "z"
        refine so_ne_s (n := 1) (shp_ints _) ?_
        walk_at "z"
        have hgl := rootG_len (b := b) (m := m) (T := T) (P := P) (fr := fr) (t := tp) (l := L)
        exact ⟨decide_eq_true (by unfold sizeLine; rw [List.length_map]; omega), _, _, rfl⟩
      · rintro _ ⟨x12, x13, rfl⟩
        exact ⟨_, _, _, _, _, _, _, _, _, rfl⟩
  · rintro _ ⟨x1, x6, x7, x8, x9, x10, x11, x12, x13, rfl⟩
    walk_at "z"
end S
set_option Elab.async false
set_option linter.all false
set_option maxRecDepth 100000
set_option maxHeartbeats 1000000
namespace S
open PySem L2 Z
/-! ### the head -/
def d_law_deck : He.DefD := ⟨("_law_deck", none), "_law_deck", "_law_deck", defArgs s_law_deck, defBody s_law_deck, defScope s_law_deck, [], []⟩
def d_law_pick : He.DefD := ⟨("_law_pick", none), "_law_pick", "_law_pick", defArgs s_law_pick, defBody s_law_pick, defScope s_law_pick, [], []⟩
def d_law_kind : He.DefD := ⟨("_law_kind", none), "_law_kind", "_law_kind", defArgs s_law_kind, defBody s_law_kind, defScope s_law_kind, [], []⟩
def d_law_half : He.DefD := ⟨("_law_half", none), "_law_half", "_law_half", defArgs s_law_half, defBody s_law_half, defScope s_law_half, [], []⟩
def d_law_sides : He.DefD := ⟨("_law_sides", none), "_law_sides", "_law_sides", defArgs s_law_sides, defBody s_law_sides, defScope s_law_sides, [], []⟩
def d_law_cut : He.DefD := ⟨("_law_cut", none), "_law_cut", "_law_cut", defArgs s_law_cut, defBody s_law_cut, defScope s_law_cut, [], []⟩
def d_law_places : He.DefD := ⟨("_law_places", none), "_law_places", "_law_places", defArgs s_law_places, defBody s_law_places, defScope s_law_places, [], []⟩
def d_law_root_good : He.DefD := ⟨("_law_root_good", none), "_law_root_good", "_law_root_good", defArgs s_law_root_good, defBody s_law_root_good, defScope s_law_root_good, [], []⟩
def d_root_edges : He.DefD := ⟨("root_edges", none), "root_edges", "root_edges", defArgs s_root_edges, defBody s_root_edges, defScope s_root_edges, [], []⟩
def d_is_root_met : He.DefD := ⟨("is_root_met", none), "is_root_met", "is_root_met", defArgs s_is_root_met, defBody s_is_root_met, defScope s_is_root_met, [], []⟩
def d_upper_holds : He.DefD := ⟨("upper_holds", none), "upper_holds", "upper_holds", defArgs s_upper_holds, defBody s_upper_holds, defScope s_upper_holds, [], []⟩
def d_lower_holds : He.DefD := ⟨("lower_holds", none), "lower_holds", "lower_holds", defArgs s_lower_holds, defBody s_lower_holds, defScope s_lower_holds, [], []⟩
def d_root_good : He.DefD := ⟨("root_good", none), "root_good", "root_good", defArgs s_root_good, defBody s_root_good, defScope s_root_good, [], []⟩
def d_law : He.DefD := ⟨("law", none), "law", "law", defArgs s_law, defBody s_law, defScope s_law, [], []⟩
def fn : List He.DefD := [d_law_deck, d_law_pick, d_law_kind, d_law_half, d_law_sides, d_law_cut, d_law_places, d_law_root_good, d_root_edges, d_is_root_met, d_upper_holds, d_lower_holds, d_root_good, d_law]
def ex (K : PySem.W.Frag) : Bool := true
def fa : List He.Fa := [.glo "_law_deck", .glo "_law_pick", .glo "_law_kind", .glo "_law_half", .glo "_law_sides", .glo "_law_cut", .glo "_law_places", .glo "_law_root_good", .glo "root_edges", .glo "is_root_met", .glo "upper_holds", .glo "lower_holds", .glo "root_good", .glo "law", .free "isinstance", .free "len", .free "list", .free "max", .free "min", .free "range", .free "tuple"]
abbrev R : PySem.W.OpenRow := PySem.W.OpenLaw.row PySem.Challenge.rw_slackfigures_k22_good_for_roots
abbrev hk : PySem.W.Hook := hookE 4 fa fn ex
def ob (s : PySem.W.SharedT) : He.AlD × Bool := obsE 4 fa fn ex (HandSHeadRun.getT s)
theorem ob_eq (s : PySem.W.SharedT) : ob s = hk.obs s.abs := obsE_eq (HandSHeadRun.getT_eq s)
def loose : List Str := (["root_edges", "is_root_met", "upper_holds", "lower_holds", "root_good", "_law_deck", "_law_pick", "_law_kind", "_law_half", "_law_sides", "_law_cut", "_law_places", "_law_root_good"] : List Str)
theorem run (w : World) : HandSHeadRun.RunEq R (PySem.W.view R.prog [15]) hk ob 4000 loose w := by
  intro os
  kernel_rfl
theorem facts {P : Program} {w : World} {K : PySem.W.Frag} {h : Heap} {mg : Str → Option Value} {f : Addr} (X : K.In h) (G : h.Ns mainGlobals mg) (hfa : mg ("law" : Str) = some (.ref f)) (c : He.SaysD fa fn K) (cx : ex K = true) :
    ∃ fd : FuncData, (∀ (s : Shared) (v : Value), BindsTo s fd ⟨[v], []⟩ [("script", v)]) ∧ ∀ base : Heap, K.In base → base.Ns mainGlobals mg → FnOk P w K mg base CX0 4 f fd ["script"] (spD K mg F_law [.sh] .sh) := by
  obtain ⟨fd_law_deck, F_law_deck'⟩ := c.def_ 0 (d := d_law_deck) rfl
  obtain ⟨fd_law_pick, F_law_pick'⟩ := c.def_ 1 (d := d_law_pick) rfl
  obtain ⟨fd_law_kind, F_law_kind'⟩ := c.def_ 2 (d := d_law_kind) rfl
  obtain ⟨fd_law_half, F_law_half'⟩ := c.def_ 3 (d := d_law_half) rfl
  obtain ⟨fd_law_sides, F_law_sides'⟩ := c.def_ 4 (d := d_law_sides) rfl
  obtain ⟨fd_law_cut, F_law_cut'⟩ := c.def_ 5 (d := d_law_cut) rfl
  obtain ⟨fd_law_places, F_law_places'⟩ := c.def_ 6 (d := d_law_places) rfl
  obtain ⟨fd_law_root_good, F_law_root_good'⟩ := c.def_ 7 (d := d_law_root_good) rfl
  obtain ⟨fd_root_edges, F_root_edges'⟩ := c.def_ 8 (d := d_root_edges) rfl
  obtain ⟨fd_is_root_met, F_is_root_met'⟩ := c.def_ 9 (d := d_is_root_met) rfl
  obtain ⟨fd_upper_holds, F_upper_holds'⟩ := c.def_ 10 (d := d_upper_holds) rfl
  obtain ⟨fd_lower_holds, F_lower_holds'⟩ := c.def_ 11 (d := d_lower_holds) rfl
  obtain ⟨fd_root_good, F_root_good'⟩ := c.def_ 12 (d := d_root_good) rfl
  obtain ⟨fd_law, F_law'⟩ := c.def_ 13 (d := d_law) rfl
  have hB : ∀ x ∈ bts, mg x = none := by
    intro x hx
    simp only [bts, List.mem_cons, List.not_mem_nil, or_false] at hx
    rcases hx with rfl | rfl | rfl | rfl | rfl | rfl | rfl
    · exact He.free_ok X G (c.fact 14 (f := .free "isinstance") rfl)
    · exact He.free_ok X G (c.fact 15 (f := .free "len") rfl)
    · exact He.free_ok X G (c.fact 16 (f := .free "list") rfl)
    · exact He.free_ok X G (c.fact 17 (f := .free "max") rfl)
    · exact He.free_ok X G (c.fact 18 (f := .free "min") rfl)
    · exact He.free_ok X G (c.fact 19 (f := .free "range") rfl)
    · exact He.free_ok X G (c.fact 20 (f := .free "tuple") rfl)
  have k_law_deck : ∀ base : Heap, Fk P w K mg base "_law_deck" 1 ["cell", "turn"] (spD K mg F_law_deck [.sh, .sh] (.ls .sh)) := fun base => ⟨_, _, ok_law_deck F_law_deck' hB, He.glo_ok X G (c.fact 0 (f := .glo "_law_deck") rfl), FunD.kp F_law_deck', FunD.bindsN F_law_deck' fun _ _ _ _ _ _ us hl => match us, hl with | [_, _], _ => rfl⟩
  have k_law_pick : ∀ base : Heap, Fk P w K mg base "_law_pick" 1 ["deck", "many"] (spD K mg F_law_pick [(.pm (.ls .sh)), .sh] .sh) := fun base => ⟨_, _, ok_law_pick F_law_pick' hB, He.glo_ok X G (c.fact 1 (f := .glo "_law_pick") rfl), FunD.kp F_law_pick', FunD.bindsN F_law_pick' fun _ _ _ _ _ _ us hl => match us, hl with | [_, _], _ => rfl⟩
  have k_law_kind : ∀ base : Heap, Fk P w K mg base "_law_kind" 2 ["deck"] (spD K mg F_law_kind [(.pm (.ls .sh))] .sh) := fun base => ⟨_, _, ok_law_kind F_law_kind' hB (k_law_pick base), He.glo_ok X G (c.fact 2 (f := .glo "_law_kind") rfl), FunD.kp F_law_kind', FunD.bindsN F_law_kind' fun _ _ _ _ _ _ us hl => match us, hl with | [_], _ => rfl⟩
  have k_law_half : ∀ base : Heap, Fk P w K mg base "_law_half" 1 ["kind", "looks"] (spD K mg F_law_half [.sh, .sh] .sh) := fun base => ⟨_, _, ok_law_half F_law_half' hB, He.glo_ok X G (c.fact 3 (f := .glo "_law_half") rfl), FunD.kp F_law_half', FunD.bindsN F_law_half' fun _ _ _ _ _ _ us hl => match us, hl with | [_, _], _ => rfl⟩
  have k_law_sides : ∀ base : Heap, Fk P w K mg base "_law_sides" 1 ["kind", "looks", "fresh", "cell"] (spD K mg F_law_sides [.sh, .sh, .sh, .sh] .sh) := fun base => ⟨_, _, ok_law_sides F_law_sides' hB, He.glo_ok X G (c.fact 4 (f := .glo "_law_sides") rfl), FunD.kp F_law_sides', FunD.bindsN F_law_sides' fun _ _ _ _ _ _ us hl => match us, hl with | [_, _, _, _], _ => rfl⟩
  have k_law_cut : ∀ base : Heap, Fk P w K mg base "_law_cut" 1 ["places", "x", "y", "w"] (spD K mg F_law_cut [.sh, .sh, .sh, .sh] .sh) := fun base => ⟨_, _, ok_law_cut F_law_cut' hB, He.glo_ok X G (c.fact 5 (f := .glo "_law_cut") rfl), FunD.kp F_law_cut', FunD.bindsN F_law_cut' fun _ _ _ _ _ _ us hl => match us, hl with | [_, _, _, _], _ => rfl⟩
  have k_law_places : ∀ base : Heap, Fk P w K mg base "_law_places" 2 ["kind", "looks", "fresh", "cell"] (spD K mg F_law_places [.sh, .sh, .sh, .sh] .sh) := fun base => ⟨_, _, ok_law_places F_law_places' hB (k_law_sides base) (k_law_cut base), He.glo_ok X G (c.fact 6 (f := .glo "_law_places") rfl), FunD.kp F_law_places', FunD.bindsN F_law_places' fun _ _ _ _ _ _ us hl => match us, hl with | [_, _, _, _], _ => rfl⟩
  have k_law_root_good : ∀ base : Heap, Fk P w K mg base "_law_root_good" 3 ["kind", "looks", "fresh", "cell"] (spD K mg F_law_root_good [.sh, .sh, .sh, .sh] .sh) := fun base => ⟨_, _, ok_law_root_good F_law_root_good' hB (k_law_places base) (k_law_sides base), He.glo_ok X G (c.fact 7 (f := .glo "_law_root_good") rfl), FunD.kp F_law_root_good', FunD.bindsN F_law_root_good' fun _ _ _ _ _ _ us hl => match us, hl with | [_, _, _, _], _ => rfl⟩
  have k_root_edges : ∀ base : Heap, Fk P w K mg base "root_edges" 1 ["kind", "looks", "fresh", "cell"] (spD K mg F_root_edges [.sh, .sh, .sh, .sh] .sh) := fun base => ⟨_, _, ok_root_edges F_root_edges' hB, He.glo_ok X G (c.fact 8 (f := .glo "root_edges") rfl), FunD.kp F_root_edges', FunD.bindsN F_root_edges' fun _ _ _ _ _ _ us hl => match us, hl with | [_, _, _, _], _ => rfl⟩
  have k_is_root_met : ∀ base : Heap, Fk P w K mg base "is_root_met" 2 ["kind", "looks", "fresh", "cell"] (spD K mg F_is_root_met [.sh, .sh, .sh, .sh] .sh) := fun base => ⟨_, _, ok_is_root_met F_is_root_met' hB (k_root_edges base), He.glo_ok X G (c.fact 9 (f := .glo "is_root_met") rfl), FunD.kp F_is_root_met', FunD.bindsN F_is_root_met' fun _ _ _ _ _ _ us hl => match us, hl with | [_, _, _, _], _ => rfl⟩
  have k_upper_holds : ∀ base : Heap, Fk P w K mg base "upper_holds" 1 ["kind", "tied", "sides"] (spD K mg F_upper_holds [.sh, .sh, .sh] .sh) := fun base => ⟨_, _, ok_upper_holds F_upper_holds' hB, He.glo_ok X G (c.fact 10 (f := .glo "upper_holds") rfl), FunD.kp F_upper_holds', FunD.bindsN F_upper_holds' fun _ _ _ _ _ _ us hl => match us, hl with | [_, _, _], _ => rfl⟩
  have k_lower_holds : ∀ base : Heap, Fk P w K mg base "lower_holds" 1 ["kind", "tied", "sides"] (spD K mg F_lower_holds [.sh, .sh, .sh] .sh) := fun base => ⟨_, _, ok_lower_holds F_lower_holds' hB, He.glo_ok X G (c.fact 11 (f := .glo "lower_holds") rfl), FunD.kp F_lower_holds', FunD.bindsN F_lower_holds' fun _ _ _ _ _ _ us hl => match us, hl with | [_, _, _], _ => rfl⟩
  have k_root_good : ∀ base : Heap, Fk P w K mg base "root_good" 3 ["kind", "looks", "fresh", "cell"] (spD K mg F_root_good [.sh, .sh, .sh, .sh] (.ls .sh)) := fun base => ⟨_, _, ok_root_good F_root_good' hB (k_is_root_met base) (k_root_edges base) (k_upper_holds base) (k_lower_holds base), He.glo_ok X G (c.fact 12 (f := .glo "root_good") rfl), FunD.kp F_root_good', FunD.bindsN F_root_good' fun _ _ _ _ _ _ us hl => match us, hl with | [_, _, _, _], _ => rfl⟩
  have e := hfa.symm.trans (He.glo_ok X G (c.fact 13 (f := .glo "law") rfl))
  cases e
  have b := FunD.bindsA (ps := ["script"]) F_law' fun _ _ _ _ _ _ us hl => match us, hl with | [_], _ => rfl
  exact ⟨fd_law, fun s v => b s [v] rfl, fun base _ _ => ok_law F_law' hB (k_law_deck base) (k_law_kind base) (k_law_pick base) (k_law_half base) (k_law_root_good base) (k_root_good base)⟩
end S
open PySem PySem.W PySem.Calls PyProof.Rows
set_option maxRecDepth 100000 in
set_option maxHeartbeats 0 in
theorem PySem.Challenge.cw_slackfigures_k22_good_for_roots_holds : PySem.Challenge.rw_slackfigures_k22_good_for_roots.Holds := by
  w_on; o_law
  refine HandSHeadRun.head_any (r := OpenLaw.row PySem.Challenge.rw_slackfigures_k22_good_for_roots) (q := view (OpenLaw.row PySem.Challenge.rw_slackfigures_k22_good_for_roots).prog [15]) (H := S.hk) (ob := S.ob) (M := 4000) (loose := S.loose) (d := HandSHeadRun.topDef (OpenLaw.row PySem.Challenge.rw_slackfigures_k22_good_for_roots).prog 15) (kwd := []) S.ob_eq
    (by kernel_rfl) (fun s => by kernel_rfl) S.run (by kernel_rfl) (by kernel_rfl) (by kernel_rfl) (by rfl) (by first | assumption | decide +kernel) (by decide +kernel) ⟨rfl, rfl, rfl, rfl, rfl, by decide +kernel⟩ ?hw ?hc
  case hw => w_witness2
  case hc =>
    refine L2.walk_ofE (l := PySem.Challenge.rw_slackfigures_k22_good_for_roots) (n := 63) (k := 4) (x := "script") (CX := L2.CX0) rfl (by decide) (by kernel_rfl) ⟨rfl, by decide, by decide⟩ ?F (fun _ _ _ _ z => z)
    intro w mg fa h Y G hmg0
    obtain ⟨K, KX, c, cx⟩ := Y
    have hmg : mg ("law" : PySem.Str) = some (.ref fa) := by
      have e : (HandSHeadRun.topDef (OpenLaw.row PySem.Challenge.rw_slackfigures_k22_good_for_roots).prog 15).name = ("law" : PySem.Str) := by kernel_rfl
      rw [← e]
      exact hmg0
    obtain ⟨fd, hb, hF⟩ := S.facts (P := (PySem.Challenge.rw_slackfigures_k22_good_for_roots).prog) (w := w) KX G hmg c cx
    exact ⟨K, fd, Z.spD K mg S.F_law [.sh] .sh, KX, hb, fun H a ns hl _ hS => Z.law_sp S.law_true H a ns hl hS _, hF⟩
