import PyProof.Rows.All
import Wide.All
import OpenK.AllK
import Wide.FinOn
import HandS.ForMost
import HandS.ForExc
import HandS.Wide
import HandS.WideBits
import HandS.IsInst
import HandS.Conv
import HandS.NoneIn
import KE.KeyNested
import HandS.TupAny
import HandS.Head0
import HandS.Head1
import HandS.Head2
import HandS.HeadEnd
import HandS.HeadHook1
import HandS.HeadHook2
import HandS.RevRange
import HandS.Flow
import HandS.Comp
import HandS.Style
import HandS.Iter
import KE.KMinKey
import HandS.SortKw
import HandS.More
import HandS.ExcInit
import HandS.ExcField
import HandS.ExcIs
import HandS.Hot
import HandS.HotCalls
import PyProof.ZipIter
import PyProof.Rows.TupIter
import KE.KExcIs
import HandS.Deep
import HandS.SortRule
import HandS.TupLen
import KE.KDictPairs
import HandS.WordsDict
import PyProof.MinMaxWalk
import PyProof.WalkInts
import PySem.Challenge.RW_slackfigures_k02_rows_of_a_worth
set_option Elab.async false
set_option linter.all false
set_option maxRecDepth 100000
namespace Z
open PySem L2
abbrev D := PyData
abbrev DS := List (Option D)
abbrev Fg := PySem.W.Frag
/-- how a slot's thing is held: read alone; a list of one's own; a parameter that is one's own for the call; a dict of one's own (0: its keys
whole numbers and texts; 1: tuples of whole numbers, nested); an object of one's own, of one of these classes (none: a dict of fields), with the fields that are one's own by their kinds;
hx: what was taken out at a, or a thing; sd: a dict that is walked meanwhile -/
inductive Kd where
  | sh : Kd
  | ls : Kd → Kd
  | pm : Kd → Kd
  | dc : Nat → Kd
  | oe : List (Str × Addr) → Kd
  | of : Str → Kd → Kd → Kd
  | te : Kd
  | tc : Kd → Kd → Kd
  | op : Kd → Kd
  | xr : Addr → Kd
  | hx : Addr → Kd → Kd
  | sd : Kd
deriving DecidableEq
inductive All3 {α β γ : Type} (P : α → β → γ → Prop) : List α → List β → List γ → Prop
  | nil : All3 P [] [] []
  | cons {a b c as bs cs} : P a b c → All3 P as bs cs → All3 P (a :: as) (b :: bs) (c :: cs)
abbrev OwR := V → D → List Addr → Prop
/-- the keys of dicts -/
def keyD : Key → D
  | .inl i => .int i
  | .inr x => .str x
inductive KvR (K : Fg) (F : Hp) {κ : Type} (kd : κ → D) : List (κ × V) → List (D × D) → Prop
  | nil : KvR K F kd [] []
  | cons {k v d kvs ds} : Dp K F v d → KvR K F kd kvs ds → KvR K F kd ((k, v) :: kvs) ((kd k, d) :: ds)
/-! keys that are tuples of whole numbers, nested -/
mutual
def nkD : NestedKey → D
  | .none => .none
  | .num i => .int i
  | .text x => .str x
  | .tup ks => .tuple (nkDs ks)
def nkDs : List NestedKey → List D
  | [] => []
  | k :: r => nkD k :: nkDs r
end
mutual
def nkI : NestedKey → Bool
  | .num _ => true
  | .tup ks => nkIs ks
  | _ => false
def nkIs : List NestedKey → Bool
  | [] => true
  | k :: r => nkI k && nkIs r
end
abbrev NdX := NestedKey × Addr × V
/-- a dict with such keys: the keys, where they stand, what is held -/
def NdO (p : Addr) (xs : List NdX) : HO := .ext fun h => (p == sysModules) = false ∧ xs.length ≤ sizeLine ∧ ∃ us : List (NestedKey × Addr × Value),
  Paired (fun (x : NdX) (u : NestedKey × Addr × Value) => x.1 = u.1 ∧ x.2.1 = u.2.1 ∧ RelV x.2.2 u.2.2) xs us ∧
  ∃ o es ep, h.get? p = some o ∧ o.ExactDict ∧ o.data = .dict es ep ∧ (∀ (P : Program) (w : World), es.toList = us.map (entryOfKey (nestedKind P w))) ∧ (us.map (·.1)).Nodup
inductive KnR (K : Fg) (F : Hp) : List NdX → List (D × D) → Prop
  | nil : KnR K F [] []
  | cons {k : NestedKey} {b v d xs ds} : nkI k = true → k.depth ≤ 8 → Dp K F (.ref b) (nkD k) → Dp K F v d → KnR K F xs ds → KnR K F ((k, b, v) :: xs) ((nkD k, d) :: ds)
def DcR (K : Fg) (F H : Hp) : Nat → Addr → List (D × D) → Prop
  | 0, p, dk => ∃ kvs : List (Key × V), H p = some (.dK kvs) ∧ KvR K F keyD kvs dk
  | _ + 1, p, dk => ∃ xs, H p = some (NdO p xs) ∧ KnR K F xs dk
/-- a dict that a loop walks: read alone, by all -/
def SdO (K : Fg) (F : Hp) : OwR := fun v d fp => fp = [] ∧ ∃ p dk o, ∃ kvs : List (Key × V), v = .ref p ∧ d = .dict dk ∧ F p = some (.frz o (.dK kvs)) ∧ KvR K F keyD kvs dk
def DcO (K : Fg) (F H : Hp) (n : Nat) : OwR := fun v d fp => ∃ p dk, v = .ref p ∧ d = .dict dk ∧ fp = [p] ∧ DcR K F H n p dk
inductive FlO (R : Str → OwR) : List (Str × V) → List (D × D) → List (List Addr) → Prop
  | nil : FlO R [] [] []
  | cons {f v d fp vs ds fs} : R f v d fp → FlO R vs ds fs → FlO R ((f, v) :: vs) ((.str f, d) :: ds) (fp :: fs)
/-- a dict of fields -/
def recK (fs : List (Str × V)) : HO := .dK (fs.map fun x => (.inr x.1, x.2))
def ObO (H : Hp) (R : Str → OwR) (cs : List (Str × Addr)) : OwR := fun v d fp => (∃ p C dx cls fs ds gs, v = .ref p ∧ d = .dict ((.none, .str cls) :: ds) ∧ H p = some (.ins C dx fs) ∧ H dx = some (.own p) ∧ cs.lookup cls = some C ∧ fp = p :: dx :: gs.flatten ∧ FlO R fs ds gs) ∨
  (cs = [] ∧ ∃ p cls fs ds gs, v = .ref p ∧ d = .dict ((.none, .str cls) :: ds) ∧ H p = some (recK fs) ∧ fp = p :: gs.flatten ∧ FlO R fs ds gs)
abbrev TowR := List V → List D → List (List Addr) → Prop
def TpO (H : Hp) (R : TowR) : OwR := fun v d fp => ∃ p xs ds fs, v = .ref p ∧ d = .tuple ds ∧ H p = some (.tup xs) ∧ fp = p :: fs.flatten ∧ R xs ds fs
def TcR (A : OwR) (R : TowR) : TowR := fun xs ds fs => ∃ x d f xr dr fr, xs = x :: xr ∧ ds = d :: dr ∧ fs = f :: fr ∧ A x d f ∧ R xr dr fr
structure Ow2R where
  a : OwR
  f : Str → OwR
  c : List (Str × Addr)
  t : TowR
def ShO (K : Fg) (F : Hp) : OwR := fun v d fp => fp = [] ∧ Dp K F v d
/-- the kind of a thing; of a field; an object's classes; of a tuple's things -/
def Ow2 (K : Fg) (F H : Hp) : Kd → Ow2R
  | .sh => ⟨ShO K F, fun _ => ShO K F, [], fun _ _ _ => False⟩
  | .ls k => ⟨fun v d fp => ∃ p xs ds fs, v = .ref p ∧ d = .list ds ∧ H p = some (.lst xs) ∧ fp = p :: fs.flatten ∧ All3 (Ow2 K F H k).a xs ds fs, fun _ => ShO K F, [], fun _ _ _ => False⟩
  | .pm k => ⟨(Ow2 K F H k).a, fun _ => ShO K F, [], fun _ _ _ => False⟩
  | .dc n => ⟨DcO K F H n, fun _ => ShO K F, [], fun _ _ _ => False⟩
  | .oe cs => ⟨ObO H (fun _ => ShO K F) cs, fun _ => ShO K F, cs, fun _ _ _ => False⟩
  | .of f k r => ⟨ObO H (fun g => if g = f then (Ow2 K F H k).a else (Ow2 K F H r).f g) (Ow2 K F H r).c, fun g => if g = f then (Ow2 K F H k).a else (Ow2 K F H r).f g, (Ow2 K F H r).c, fun _ _ _ => False⟩
  | .te => ⟨TpO H (fun xs ds fs => xs = [] ∧ ds = [] ∧ fs = []), fun _ => ShO K F, [], fun xs ds fs => xs = [] ∧ ds = [] ∧ fs = []⟩
  | .tc k r => ⟨TpO H (TcR (Ow2 K F H k).a (Ow2 K F H r).t), fun _ => ShO K F, [], TcR (Ow2 K F H k).a (Ow2 K F H r).t⟩
  | .op k => ⟨fun v d fp => (v = .non ∧ d = .none ∧ fp = []) ∨ (Ow2 K F H k).a v d fp, fun _ => ShO K F, [], fun _ _ _ => False⟩
  | .xr a => ⟨fun v _ fp => v = .ref a ∧ fp = [], fun _ => ShO K F, [], fun _ _ _ => False⟩
  | .hx a k => ⟨fun v d fp => (v = .ref a ∧ d = .none ∧ fp = []) ∨ (Ow2 K F H k).a v d fp, fun _ => ShO K F, [], fun _ _ _ => False⟩
  | .sd => ⟨SdO K F, fun _ => ShO K F, [], fun _ _ _ => False⟩
def Ow (K : Fg) (F H : Hp) (k : Kd) : OwR := (Ow2 K F H k).a
theorem All3.imp {α β γ : Type} {P Q : α → β → γ → Prop} : ∀ {xs ys zs}, All3 P xs ys zs → (∀ a b c, c ∈ zs → P a b c → Q a b c) → All3 Q xs ys zs
  | _, _, _, .nil, _ => .nil
  | _, _, _, .cons h t, f => .cons (f _ _ _ (List.mem_cons_self) h) (t.imp fun a b c hc => f a b c (List.mem_cons_of_mem _ hc))
theorem All3.len {α β γ : Type} {P : α → β → γ → Prop} : ∀ {xs ys zs}, All3 P xs ys zs → xs.length = ys.length ∧ zs.length = ys.length
  | _, _, _, .nil => ⟨rfl, rfl⟩
  | _, _, _, .cons _ t => by
    have h := t.len
    simp only [List.length_cons]
    omega
theorem sqL_mono {K : Fg} {H H' : Hp} (e : Same H H') {a : Addr} {xs : List V} (h : SqL K H a xs) : SqL K H' a xs := e.seq h
theorem sqT_mono {K : Fg} {H H' : Hp} (e : Same H H') {a : Addr} {xs : List V} (h : SqT K H a xs) : SqT K H' a xs := by
  rcases h with (h | ⟨o, h⟩) | h
  · exact .inl (.inl (e _ _ h))
  · exact .inl (.inr ⟨o, e _ _ h⟩)
  · exact .inr h
mutual
theorem dp_mono {K : Fg} {H H' : Hp} (e : Same H H') : ∀ {v : V} {d : D}, Dp K H v d → Dp K H' v d
  | _, _, .non => .non
  | _, _, .bl b => .bl b
  | _, _, .int i => .int i
  | _, _, .str x => .str x
  | _, _, .lst h r => .lst (sqL_mono e h) (dpa_mono e r)
  | _, _, .tup h r => .tup (sqT_mono e h) (dpa_mono e r)
theorem dpa_mono {K : Fg} {H H' : Hp} (e : Same H H') : ∀ {vs : List V} {ds : List D}, DpAll K H vs ds → DpAll K H' vs ds
  | _, _, .nil => .nil
  | _, _, .cons h r => .cons (dp_mono e h) (dpa_mono e r)
end
theorem kvR_mono {K : Fg} {F F' : Hp} {κ : Type} {kd : κ → D} (e : Same F F') : ∀ {kvs : List (κ × V)} {ds : List (D × D)}, KvR K F kd kvs ds → KvR K F' kd kvs ds
  | _, _, .nil => .nil
  | _, _, .cons h t => .cons (dp_mono e h) (kvR_mono e t)
theorem knR_mono {K : Fg} {F F' : Hp} (e : Same F F') : ∀ {xs : List NdX} {ds : List (D × D)}, KnR K F xs ds → KnR K F' xs ds
  | _, _, .nil => .nil
  | _, _, .cons h1 h2 h3 h4 t => .cons h1 h2 (dp_mono e h3) (dp_mono e h4) (knR_mono e t)
theorem dcR_mono {K : Fg} {F F' H H' : Hp} (e : Same F F') {n : Nat} {p : Addr} {dk : List (D × D)} (h : DcR K F H n p dk) (g : H' p = H p) : DcR K F' H' n p dk := by
  cases n with
  | zero =>
    obtain ⟨kvs, a, b⟩ := h
    exact ⟨kvs, g.trans a, kvR_mono e b⟩
  | succ n =>
    obtain ⟨xs, a, b⟩ := h
    exact ⟨xs, g.trans a, knR_mono e b⟩
theorem dcO_mono {K : Fg} {F F' H H' : Hp} (e : Same F F') {n : Nat} {v : V} {d : D} {fp : List Addr} (h : DcO K F H n v d fp) (g : ∀ q ∈ fp, H' q = H q) : DcO K F' H' n v d fp := by
  obtain ⟨p, dk, rfl, rfl, rfl, h⟩ := h
  exact ⟨p, dk, rfl, rfl, rfl, dcR_mono e h (g p (by simp))⟩
theorem FlO.imp {R R' : Str → OwR} : ∀ {vs : List (Str × V)} {ds : List (D × D)} {fs : List (List Addr)}, FlO R vs ds fs → (∀ f v d fp, fp ∈ fs → R f v d fp → R' f v d fp) → FlO R' vs ds fs
  | _, _, _, .nil, _ => .nil
  | _, _, _, .cons h t, g => .cons (g _ _ _ _ List.mem_cons_self h) (t.imp fun f v d fp hm => g f v d fp (List.mem_cons_of_mem _ hm))
theorem obO_mono {H H' : Hp} {R R' : Str → OwR} {cs : List (Str × Addr)} {v : V} {d : D} {fp : List Addr} (h : ObO H R cs v d fp) (g : ∀ q ∈ fp, H' q = H q) (hR : ∀ f v d fp', (∀ q ∈ fp', q ∈ fp) → R f v d fp' → R' f v d fp') : ObO H' R' cs v d fp := by
  rcases h with ⟨p, C, dx, cls, fs, ds, gs, rfl, rfl, h1, h2, h3, rfl, h4⟩ | ⟨hc, p, cls, fs, ds, gs, rfl, rfl, h1, rfl, h4⟩
  · refine .inl ⟨p, C, dx, cls, fs, ds, gs, rfl, rfl, by rw [g p (by simp)]; exact h1, by rw [g dx (by simp)]; exact h2, h3, rfl, h4.imp fun f v d fp hm hr => hR f v d fp (fun q hq => ?_) hr⟩
    exact List.mem_cons_of_mem _ (List.mem_cons_of_mem _ (List.mem_flatten.mpr ⟨fp, hm, hq⟩))
  · refine .inr ⟨hc, p, cls, fs, ds, gs, rfl, rfl, by rw [g p (by simp)]; exact h1, rfl, h4.imp fun f v d fp hm hr => hR f v d fp (fun q hq => ?_) hr⟩
    exact List.mem_cons_of_mem _ (List.mem_flatten.mpr ⟨fp, hm, hq⟩)
theorem tpO_mono {H H' : Hp} {R R' : TowR} {v : V} {d : D} {fp : List Addr} (h : TpO H R v d fp) (g : ∀ q ∈ fp, H' q = H q) (hR : ∀ xs ds fs, (∀ f ∈ fs, ∀ q ∈ f, q ∈ fp) → R xs ds fs → R' xs ds fs) : TpO H' R' v d fp := by
  obtain ⟨p, xs, ds, fs, rfl, rfl, hp, rfl, al⟩ := h
  exact ⟨p, xs, ds, fs, rfl, rfl, by rw [g p List.mem_cons_self]; exact hp, rfl, hR xs ds fs (fun f hf q hq => List.mem_cons_of_mem _ (List.mem_flatten.mpr ⟨f, hf, hq⟩)) al⟩
theorem ow2_mono {K : Fg} {F F' H H' : Hp} (e : Same F F') : ∀ k : Kd, (∀ v d fp, (Ow2 K F H k).a v d fp → (∀ q ∈ fp, H' q = H q) → (Ow2 K F' H' k).a v d fp) ∧
    (∀ g v d fp, (Ow2 K F H k).f g v d fp → (∀ q ∈ fp, H' q = H q) → (Ow2 K F' H' k).f g v d fp) ∧ (Ow2 K F H k).c = (Ow2 K F' H' k).c ∧
    (∀ xs ds fs, (Ow2 K F H k).t xs ds fs → (∀ f ∈ fs, ∀ q ∈ f, H' q = H q) → (Ow2 K F' H' k).t xs ds fs) := by
  intro k
  have sh : ∀ v d fp, ShO K F v d fp → (∀ q ∈ fp, H' q = H q) → ShO K F' v d fp := fun v d fp h _ => ⟨h.1, dp_mono e h.2⟩
  have no : ∀ xs ds fs, False → (∀ f ∈ fs, ∀ q ∈ f, H' q = H q) → False := fun (_ : List V) (_ : List D) (_ : List (List Addr)) h _ => h
  induction k with
  | sh => exact ⟨sh, fun _ => sh, rfl, no⟩
  | ls k ih =>
    refine ⟨fun v d fp h g => ?_, fun _ => sh, rfl, no⟩
    obtain ⟨p, xs, ds, fs, rfl, rfl, hp, rfl, al⟩ := h
    exact ⟨p, xs, ds, fs, rfl, rfl, by rw [g p List.mem_cons_self]; exact hp, rfl, al.imp fun a b c hc q => ih.1 a b c q fun r hr => g r (List.mem_cons_of_mem _ (List.mem_flatten.mpr ⟨c, hc, hr⟩))⟩
  | pm k ih => exact ⟨ih.1, fun _ => sh, rfl, no⟩
  | dc n => exact ⟨fun v d fp h g => dcO_mono e h g, fun _ => sh, rfl, no⟩
  | oe cs => exact ⟨fun v d fp h g => obO_mono h g fun f v d fp' hs hr => sh v d fp' hr fun q hq => g q (hs q hq), fun _ => sh, rfl, no⟩
  | of f k r ih1 ih2 =>
    have key : ∀ g v d fp, (if g = f then (Ow2 K F H k).a else (Ow2 K F H r).f g) v d fp → (∀ q ∈ fp, H' q = H q) → (if g = f then (Ow2 K F' H' k).a else (Ow2 K F' H' r).f g) v d fp := fun g v d fp h hq => by
      by_cases z : g = f
      · rw [if_pos z] at h ⊢; exact ih1.1 v d fp h hq
      · rw [if_neg z] at h ⊢; exact ih2.2.1 g v d fp h hq
    refine ⟨fun v d fp h g => ?_, key, ih2.2.2.1, no⟩
    have h' : ObO H (fun g => if g = f then (Ow2 K F H k).a else (Ow2 K F H r).f g) (Ow2 K F H r).c v d fp := h
    rw [ih2.2.2.1] at h'
    exact obO_mono h' g fun f v d fp' hs hr => key f v d fp' hr fun q hq => g q (hs q hq)
  | te => exact ⟨fun v d fp h g => tpO_mono h g fun _ _ _ _ z => z, fun _ => sh, rfl, fun _ _ _ z _ => z⟩
  | tc k r ih1 ih2 =>
    have key : ∀ xs ds fs, TcR (Ow2 K F H k).a (Ow2 K F H r).t xs ds fs → (∀ f ∈ fs, ∀ q ∈ f, H' q = H q) → TcR (Ow2 K F' H' k).a (Ow2 K F' H' r).t xs ds fs := fun xs ds fs h g => by
      obtain ⟨x, d, f, xr, dr, fr, rfl, rfl, rfl, h1, h2⟩ := h
      exact ⟨x, d, f, xr, dr, fr, rfl, rfl, rfl, ih1.1 x d f h1 (g f (by simp)), ih2.2.2.2 xr dr fr h2 fun f' hf => g f' (by simp [hf])⟩
    exact ⟨fun v d fp h g => tpO_mono h g fun xs ds fs hs z => key xs ds fs z fun f hf q hq => g q (hs f hf q hq), fun _ => sh, rfl, key⟩
  | op k ih => exact ⟨fun v d fp h g => h.imp id fun z => ih.1 v d fp z g, fun _ => sh, rfl, no⟩
  | xr a => exact ⟨fun v d fp h _ => h, fun _ => sh, rfl, no⟩
  | hx a k ih => exact ⟨fun v d fp h g => h.imp id fun z => ih.1 v d fp z g, fun _ => sh, rfl, no⟩
  | sd => exact ⟨fun v d fp h _ => ⟨h.1, h.2.imp fun p h => h.imp fun dk h => h.imp fun o h => h.imp fun kvs h => ⟨h.1, h.2.1, e _ _ h.2.2.1, kvR_mono e h.2.2.2⟩⟩, fun _ => sh, rfl, no⟩
theorem ow_mono {K : Fg} {F F' H H' : Hp} (e : Same F F') {k : Kd} {v : V} {d : D} {fp : List Addr} (h : Ow K F H k v d fp) (g : ∀ q ∈ fp, H' q = H q) : Ow K F' H' k v d fp := (ow2_mono e k).1 v d fp h g
def isPm : Option Kd → Bool
  | some (.pm _) => true
  | _ => false
/-- the entry of a def: what is read there, its whole heap, the parameters' own things -/
structure Ctx where
  F0 : Hp
  H0 : Hp
  /-- the own things of the slots that are pinned -/
  ow : Nat → Addr → Prop
  /-- the parameters' kinds; further slots that are pinned -/
  ps : List Kd × List Nat
  /-- the slots that hold what was handed in, all through: their kinds -/
  pk : Nat → Option Kd
  rk : Kd
  arg : Nat → V
  /-- the module's names; what is wished of an exception; the holds at which one may be raised -/
  mg : Str → Option Value
  W : WX
  Ox : Option (List Kd)
def Ctx.own (c : Ctx) (b : Addr) : Prop := ∃ i, c.ow i b
/-- a parameter's slot, or one that is pinned -/
def Ctx.isP (c : Ctx) (i : Nat) : Prop := c.ps.1[i]?.isSome = true ∨ i ∈ c.ps.2
/-- an exception: its class, its fields -/
structure Xc where
  c : Str
  fs : List (Str × D)
structure Rel (K : Fg) (c : Ctx) (O : List Kd) (F H : Hp) (σ : St) (fps : Nat → List Addr) (ds : DS) : Prop where
  sub : Same F H
  base : Same c.F0 F
  keep : ∀ b o, c.H0 b = some o → ¬ c.own b → H b = some o
  live : ∀ b, H b = none → c.H0 b = none
  new : ∀ b o, F b = some o → c.F0 b = some o ∨ c.H0 b = none
  slots : ∀ i d, ds[i]? = some (some d) → ∃ v, σ[i]? = some (some v) ∧ Ow K F H (O.getD i .sh) v d (fps i)
  off : ∀ i q, q ∈ fps i → F q = none ∧ H q ≠ none ∧ (c.H0 q = none ∨ (c.ow i q ∧ isPm O[i]? = true))
  nd : ∀ i, (fps i).Nodup
  dj : ∀ i j, i ≠ j → ∀ q, q ∈ fps i → q ∉ fps j
  par : ∀ i k, c.pk i = some k → O[i]? = some (.pm k) ∧ σ[i]? = some (some (c.arg i))
  len : σ.length = ds.length
inductive R (α : Type) where
  | ok (a : α) (s : DS)
  | no
abbrev M (α : Type) := DS → R α
/-- statements' ends -/
inductive RS where
  | nx (s : DS)
  | rt (d : D) (s : DS)
  | bk (s : DS)
  | ct (s : DS)
  | ex (x : Xc) (s : DS)
  | no
abbrev MS := DS → RS
structure DE (K : Fg) (c : Ctx) (O : List Kd) (t : TE) (m : M D) : Prop where
  run : ∀ {F H : Hp} {σ : St} {fps : Nat → List Addr} {ds ds' : DS} {d : D}, Rel K c O F H σ fps ds → m ds = .ok d ds' → ∀ Q : VK,
    (∀ F' H' fps' v, Same F F' → Rel K c O F' H' σ fps' ds' → Dp K F' v d → Q v H') → t σ H Q
structure DT (K : Fg) (c : Ctx) (O : List Kd) (t : TT) (m : M Bool) : Prop where
  run : ∀ {F H : Hp} {σ : St} {fps : Nat → List Addr} {ds ds' : DS} {b : Bool}, Rel K c O F H σ fps ds → m ds = .ok b ds' → ∀ Q : Bool → Hp → Prop,
    (∀ F' H' fps', Same F F' → Rel K c O F' H' σ fps' ds' → Q b H') → t σ H Q
structure DA (K : Fg) (c : Ctx) (O : List Kd) (t : TA) (m : M (List D)) : Prop where
  run : ∀ {F H : Hp} {σ : St} {fps : Nat → List Addr} {ds ds' : DS} {es : List D}, Rel K c O F H σ fps ds → m ds = .ok es ds' → ∀ Q : List V → Hp → Prop,
    (∀ F' H' fps' vs, Same F F' → Rel K c O F' H' σ fps' ds' → DpAll K F' vs es → Q vs H') → t σ H Q
/-- an expression that makes a thing of one's own -/
structure DO (K : Fg) (c : Ctx) (O : List Kd) (k : Kd) (t : TE) (m : M D) : Prop where
  run : ∀ {F H : Hp} {σ : St} {fps : Nat → List Addr} {ds ds' : DS} {d : D}, Rel K c O F H σ fps ds → m ds = .ok d ds' → ∀ Q : VK,
    (∀ F' H' fps' v fpv, Same F F' → Rel K c O F' H' σ fps' ds' → Ow K F' H' k v d fpv → (∀ q ∈ fpv, F' q = none ∧ H' q ≠ none ∧ c.H0 q = none ∧ ∀ i, q ∉ fps' i) → fpv.Nodup → Q v H') → t σ H Q
inductive FsR (K : Fg) (F : Hp) : List (Str × V) → List (Str × D) → Prop
  | nil : FsR K F [] []
  | cons {f v d vs ds} : Dp K F v d → FsR K F vs ds → FsR K F ((f, v) :: vs) ((f, d) :: ds)
/-- what the exception's class and dict are -/
def ExOk (K : Fg) (mg : Str → Option Value) (F : Hp) (x : Xc) (cls : Value) (dd : Option Addr) : Prop :=
  mg x.c = some cls ∧ ((x.fs = [] ∧ dd = none) ∨ ∃ d ws, dd = some d ∧ F d = some (.xd ws) ∧ FsR K F ws x.fs)
def Post (K : Fg) (c : Ctx) (Ob O' : List Kd) (F : Hp) (E : Ends) : RS → Prop
  | .nx ds' => ∀ F' H' σ' fps', Same F F' → Rel K c O' F' H' σ' fps' ds' → E.nx σ' H'
  | .bk ds' => ∀ F' H' σ' fps', Same F F' → Rel K c Ob F' H' σ' fps' ds' → E.bk σ' H'
  | .ct ds' => ∀ F' H' σ' fps', Same F F' → Rel K c Ob F' H' σ' fps' ds' → E.ct σ' H'
  | .rt d ds' => ∀ F' H' σ' fps' O'' v fpv, Same F F' → Rel K c O'' F' H' σ' fps' ds' → Ow K F' H' c.rk v d fpv → (∀ q ∈ fpv, F' q = none ∧ H' q ≠ none ∧ c.H0 q = none ∧ ∀ i, c.isP i → q ∉ fps' i) → fpv.Nodup → E.rt v H'
  | .ex x ds' => ∀ F' H' σ' fps' O'' cls dd, (∀ o, c.Ox = some o → O'' = o) → Same F F' → Rel K c O'' F' H' σ' fps' ds' → ExOk K c.mg F' x cls dd → c.W cls dd σ' H'
  | .no => False
structure DC (K : Fg) (c : Ctx) (Ob O : List Kd) (t : TS) (m : MS) (O' : List Kd) : Prop where
  run : ∀ {F H : Hp} {σ : St} {fps : Nat → List Addr} {ds : DS}, Rel K c O F H σ fps ds → ∀ E : Ends, Post K c Ob O' F E (m ds) → t E σ H
end Z
set_option Elab.async false
set_option linter.all false
set_option maxRecDepth 100000
namespace Z
open PySem L2
/-! ### moves of the relation -/
section
variable {K : Fg} {c : Ctx} {O : List Kd} {F H : Hp} {σ : St} {fps : Nat → List Addr} {ds : DS}
theorem Rel.fresh (r : Rel K c O F H σ fps ds) {p : Addr} (h : H p = none) : F p = none ∧ c.H0 p = none ∧ ∀ i, p ∉ fps i :=
  ⟨r.sub.free h, r.live p h, fun i hi => (r.off i p hi).2.1 h⟩
theorem same_upd {F : Hp} {p : Addr} {o : HO} (h : F p = none) : Same F (upd F p o) := fun b u e => by rw [upd_ne (ne_of_none e h)]; exact e
/-- a new thing, to be read from now on -/
theorem Rel.alloc (r : Rel K c O F H σ fps ds) {p : Addr} (h : H p = none) (o : HO) : Rel K c O (upd F p o) (upd H p o) σ fps ds := by
  obtain ⟨hF, h0, hq⟩ := r.fresh h
  have sF : Same F (upd F p o) := same_upd hF
  refine ⟨fun b u e => ?_, r.base.trans sF, fun b u e n => ?_, fun b e => ?_, fun b u e => ?_, fun i d e => ?_, fun i q hqi => ?_, r.nd, r.dj, r.par, r.len⟩
  · by_cases hb : b = p
    · subst hb; rw [upd_same] at e ⊢; exact e
    · rw [upd_ne hb] at e ⊢; exact r.sub b u e
  · have hb : b ≠ p := fun z => by subst z; rw [h0] at e; cases e
    rw [upd_ne hb]; exact r.keep b u e n
  · by_cases hb : b = p
    · subst hb; rw [upd_same] at e; cases e
    · rw [upd_ne hb] at e; exact r.live b e
  · by_cases hb : b = p
    · subst hb; exact .inr h0
    · rw [upd_ne hb] at e; exact r.new b u e
  · obtain ⟨v, hv, ho⟩ := r.slots i d e
    exact ⟨v, hv, ow_mono sF ho fun q hq' => upd_ne fun z => by subst z; exact hq i hq'⟩
  · obtain ⟨a, b, cc⟩ := r.off i q hqi
    have hb : q ≠ p := fun z => by subst z; exact hq i hqi
    rw [upd_ne hb, upd_ne hb]; exact ⟨a, b, cc⟩
/-- a new thing of one's own -/
theorem Rel.allocO (r : Rel K c O F H σ fps ds) {p : Addr} (h : H p = none) (o : HO) : Rel K c O F (upd H p o) σ fps ds := by
  obtain ⟨hF, h0, hq⟩ := r.fresh h
  refine ⟨fun b u e => ?_, r.base, fun b u e n => ?_, fun b e => ?_, r.new, fun i d e => ?_, fun i q hqi => ?_, r.nd, r.dj, r.par, r.len⟩
  · rw [upd_ne (ne_of_none e hF)]; exact r.sub b u e
  · have hb : b ≠ p := fun z => by subst z; rw [h0] at e; cases e
    rw [upd_ne hb]; exact r.keep b u e n
  · by_cases hb : b = p
    · subst hb; rw [upd_same] at e; cases e
    · rw [upd_ne hb] at e; exact r.live b e
  · obtain ⟨v, hv, ho⟩ := r.slots i d e
    exact ⟨v, hv, ow_mono (Same.refl _) ho fun q hq' => upd_ne fun z => by subst z; exact hq i hq'⟩
  · obtain ⟨a, b, cc⟩ := r.off i q hqi
    have hb : q ≠ p := fun z => by subst z; exact hq i hqi
    rw [upd_ne hb]; exact ⟨a, b, cc⟩
/-- a slot's thing -/
theorem Rel.get (r : Rel K c O F H σ fps ds) {i : Nat} {d : D} (h : ds[i]? = some (some d)) : ∃ v, σ[i]? = some (some v) ∧ Ow K F H (O.getD i .sh) v d (fps i) := r.slots i d h
theorem getD_set_ne {O : List Kd} {i j : Nat} {k : Kd} (h : j ≠ i) : (O.set i k).getD j .sh = O.getD j .sh := by
  simp only [List.getD_eq_getElem?_getD]
  rw [List.getElem?_set_ne (Ne.symm h)]
theorem getD_set_eq {O : List Kd} {i : Nat} {k : Kd} (h : i < O.length) : (O.set i k).getD i .sh = k := by
  simp only [List.getD_eq_getElem?_getD]
  rw [List.getElem?_set_self h]; rfl
/-- a slot is given a thing -/
theorem Rel.put (r : Rel K c O F H σ fps ds) {i : Nat} {k : Kd} {v : V} {d : D} {fpv : List Addr} (hi : i < O.length) (hp : isPm O[i]? = false) (ho : Ow K F H k v d fpv)
    (hf : ∀ q ∈ fpv, F q = none ∧ H q ≠ none ∧ c.H0 q = none ∧ ∀ j, j ≠ i → q ∉ fps j) (nd : fpv.Nodup) :
    Rel K c (O.set i k) F H (σ.set i (some v)) (fun j => if j = i then fpv else fps j) (ds.set i (some d)) := by
  have hne : ∀ j k', c.pk j = some k' → j ≠ i := fun j k' h z => by
    subst z
    rw [(r.par j k' h).1] at hp
    exact absurd hp (by simp [isPm])
  refine ⟨r.sub, r.base, r.keep, r.live, r.new, fun j e hj => ?_, fun j q hq => ?_, fun j => ?_, fun j l hjl q hq hq' => ?_, fun j k' h => ?_, by rw [List.length_set, List.length_set]; exact r.len⟩
  · by_cases z : j = i
    · subst z
      have hl : j < ds.length := by
        cases Nat.lt_or_ge j ds.length with
        | inl h => exact h
        | inr h => rw [List.getElem?_eq_none (by rw [List.length_set]; exact h)] at hj; cases hj
      rw [List.getElem?_set_self hl] at hj
      have e' : e = d := (Option.some.inj (Option.some.inj hj)).symm
      subst e'
      refine ⟨v, by rw [List.getElem?_set_self (by rw [r.len]; exact hl)], ?_⟩
      rw [getD_set_eq hi]
      simp only [if_pos]
      exact ho
    · rw [List.getElem?_set_ne (Ne.symm z)] at hj
      obtain ⟨u, hu, w⟩ := r.slots j e hj
      refine ⟨u, by rw [List.getElem?_set_ne (Ne.symm z)]; exact hu, ?_⟩
      rw [getD_set_ne z]
      simp only [if_neg z]
      exact w
  · by_cases z : j = i
    · simp only [z, if_pos] at hq
      obtain ⟨a, b, c', _⟩ := hf q hq
      exact ⟨a, b, .inl c'⟩
    · simp only [if_neg z] at hq
      rw [List.getElem?_set_ne (Ne.symm z)]
      exact r.off j q hq
  · by_cases z : j = i
    · simp only [z, if_pos]; exact nd
    · simp only [if_neg z]; exact r.nd j
  · by_cases z : j = i
    · by_cases z' : l = i
      · exact hjl (z.trans z'.symm)
      · simp only [z, if_pos] at hq
        simp only [if_neg z'] at hq'
        exact (hf q hq).2.2.2 l z' hq'
    · simp only [if_neg z] at hq
      by_cases z' : l = i
      · simp only [z', if_pos] at hq'
        exact (hf q hq').2.2.2 j z hq
      · simp only [if_neg z'] at hq'
        exact r.dj j l hjl q hq hq'
  · have h' := hne j k' h
    obtain ⟨a, b⟩ := r.par j k' h
    exact ⟨by rw [List.getElem?_set_ne (Ne.symm h')]; exact a, by rw [List.getElem?_set_ne (Ne.symm h')]; exact b⟩
/-- lists in lists -/
def listy : Kd → Bool
  | .sh => true
  | .ls k => listy k
  | .pm k => listy k
  | _ => false
/-- what is one's own read as data -/
theorem ow_view : ∀ {k : Kd} {v : V} {d : D} {fp : List Addr}, listy k = true → Ow K F H k v d fp → Same F H → Dp K H v d := by
  intro k
  induction k with
  | sh => intro v d fp _ h s; exact dp_mono s h.2
  | ls k ih =>
    intro v d fp hl h s
    obtain ⟨p, xs, ds, fs, rfl, rfl, hp, rfl, al⟩ := h
    refine .lst (SqL.of hp) ?_
    clear hp
    induction al with
    | nil => exact .nil
    | cons q _ ih2 => exact .cons (ih hl q s) (ih2)
  | pm k ih => intro v d fp hl h s; exact ih hl h s
  | dc _ => intro v d fp hl; cases hl
  | oe _ => intro v d fp hl; cases hl
  | of _ _ _ _ _ => intro v d fp hl; cases hl
  | te => intro v d fp hl; cases hl
  | tc _ _ _ _ => intro v d fp hl; cases hl
  | op _ _ => intro v d fp hl; cases hl
  | xr _ => intro v d fp hl; cases hl
  | hx _ _ _ => intro v d fp hl; cases hl
  | sd => intro v d fp hl; cases hl
end
end Z
set_option Elab.async false
set_option linter.all false
set_option maxRecDepth 100000
namespace Z
open PySem L2
/-! ### combinators -/
def bnd {α β : Type} (m : M α) (f : α → M β) : M β := fun s => match m s with
  | .ok a s' => f a s'
  | .no => .no
def opt {α : Type} (o : Option α) : M α := fun s => match o with
  | some a => .ok a s
  | none => .no
/-- a thing that is read: data, or the slot of a thing of one's own -/
inductive BR where
  | val (d : D)
  | slot (i : Nat)
def res (s : DS) : BR → Option D
  | .val d => some d
  | .slot i => match s[i]? with
    | some (some d) => some d
    | _ => none
def mV (m : M D) : M BR := bnd m fun d s => .ok (.val d) s
def mSlot (i : Nat) : M BR := fun s => match s[i]? with
  | some (some _) => .ok (.slot i) s
  | _ => .no
def mVar (i : Nat) : M D := fun s => match s[i]? with
  | some (some d) => .ok d s
  | _ => .no
def mC (d : D) : M D := fun s => .ok d s
def mOp (f : D → D → Option D) (a b : M BR) : M D := bnd a fun x => bnd b fun y => fun s => match res s x, res s y with
  | some dx, some dy => opt (f dx dy) s
  | _, _ => .no
def mUn (f : D → Option D) (a : M BR) : M D := bnd a fun x => fun s => match res s x with
  | some dx => opt (f dx) s
  | none => .no
def tru : D → Option Bool
  | .bool b => some b
  | _ => none
def mB (m : M D) : M Bool := bnd m fun d => opt (tru d)
def mAnd (a b : M Bool) : M Bool := bnd a fun x => match x with
  | true => b
  | false => fun s => .ok false s
def mOr (a b : M Bool) : M Bool := bnd a fun x => match x with
  | true => fun s => .ok true s
  | false => b
def mNot (a : M Bool) : M Bool := bnd a fun x => fun s => .ok (!x) s
def mAndV (a b : M D) : M D := bnd (mB a) fun x => match x with
  | true => b
  | false => fun s => .ok (.bool false) s
def mOrV (a b : M D) : M D := bnd (mB a) fun x => match x with
  | true => fun s => .ok (.bool true) s
  | false => b
def mNotV (a : M D) : M D := bnd (mB a) fun x => fun s => .ok (.bool (!x)) s
def mIf (t : M Bool) (a b : M D) : M D := bnd t fun x => match x with
  | true => a
  | false => b
def mChain (f g : D → D → Option D) (a b c : M D) : M D := bnd a fun x => bnd b fun y => bnd (opt (f x y)) fun z => match z with
  | .bool true => bnd c fun w => opt (g y w)
  | .bool false => fun s => .ok (.bool false) s
  | _ => fun _ => .no
def mNil : M (List D) := fun s => .ok [] s
def mCons (a : M D) (r : M (List D)) : M (List D) := bnd a fun x => bnd r fun xs => fun s => .ok (x :: xs) s
def mNilB : M (List BR) := fun s => .ok [] s
def mConsB (a : M BR) (r : M (List BR)) : M (List BR) := bnd a fun x => bnd r fun xs => fun s => .ok (x :: xs) s
def fits (n : Nat) : Bool := decide (n ≤ sizeLine)
def mTup (a : M (List D)) : M D := bnd a fun xs => opt (if fits xs.length then some (.tuple xs) else none)
def mLst (a : M (List D)) : M D := bnd a fun xs => opt (if fits xs.length then some (.list xs) else none)
def mB1 (f : List D → Option D) (a : M (List BR)) : M D := bnd a fun xs => fun s => match xs.mapM (res s) with
  | some ds => opt (f ds) s
  | none => .no
/-! ### scalars, views, growth -/
def Sc : V → D → Prop
  | .non, .none => True
  | .bl b, .bool c => b = c
  | .int i, .int j => i = j
  | .str x, .str y => x = y
  | _, _ => False
theorem Sc.dp {K : Fg} {F : Hp} : ∀ {v : V} {d : D}, Sc v d → Dp K F v d := by
  intro v d h
  cases v <;> cases d <;> first | exact h.elim | skip
  · exact .non
  · cases h; exact .bl _
  · cases h; exact .int _
  · cases h; exact .str _
def Vw (K : Fg) (F H : Hp) (v : V) (d : D) : Prop := Dp K F v d ∨ ∃ p xs ds, v = .ref p ∧ d = .list ds ∧ H p = some (.lst xs) ∧ DpAll K F xs ds
theorem Vw.dp {K : Fg} {F H : Hp} {v : V} {d : D} (h : Vw K F H v d) (s : Same F H) : Dp K H v d := by
  rcases h with h | ⟨p, xs, ds, rfl, rfl, hp, al⟩
  · exact dp_mono s h
  · exact .lst (SqL.of hp) (dpa_mono s al)
theorem Vw.lst {K : Fg} {F H : Hp} {v : V} {ds : List D} (h : Vw K F H v (.list ds)) (s : Same F H) : ∃ p xs, v = .ref p ∧ SqL K H p xs ∧ DpAll K F xs ds := by
  rcases h with h | ⟨p, xs, ds', rfl, e, hp, al⟩
  · cases h with
    | lst h r => exact ⟨_, _, rfl, sqL_mono s h, r⟩
  · cases e; exact ⟨p, xs, rfl, SqL.of hp, al⟩
theorem Vw.tup {K : Fg} {F H : Hp} {v : V} {ds : List D} (h : Vw K F H v (.tuple ds)) (s : Same F H) : ∃ p xs, v = .ref p ∧ SqT K H p xs ∧ DpAll K F xs ds := by
  rcases h with h | ⟨p, xs, ds', rfl, e, hp, al⟩
  · cases h with
    | tup h r => exact ⟨_, _, rfl, sqT_mono s h, r⟩
  · cases e
theorem Vw.int {K : Fg} {F H : Hp} {v : V} {i : Int} (h : Vw K F H v (.int i)) : v = .int i := by
  rcases h with h | ⟨p, xs, ds', rfl, e, hp, al⟩
  · cases h; rfl
  · cases e
theorem Vw.bl {K : Fg} {F H : Hp} {v : V} {i : Bool} (h : Vw K F H v (.bool i)) : v = .bl i := by
  rcases h with h | ⟨p, xs, ds', rfl, e, hp, al⟩
  · cases h; rfl
  · cases e
theorem Vw.str {K : Fg} {F H : Hp} {v : V} {i : Str} (h : Vw K F H v (.str i)) : v = .str i := by
  rcases h with h | ⟨p, xs, ds', rfl, e, hp, al⟩
  · cases h; rfl
  · cases e
theorem Vw.non {K : Fg} {F H : Hp} {v : V} (h : Vw K F H v .none) : v = .non := by
  rcases h with h | ⟨p, xs, ds', rfl, e, hp, al⟩
  · cases h; rfl
  · cases e
theorem dpa_len {K : Fg} {F : Hp} : ∀ {vs : List V} {ds : List D}, DpAll K F vs ds → vs.length = ds.length
  | _, _, .nil => rfl
  | _, _, .cons _ r => by simp only [List.length_cons, dpa_len r]
theorem dpa_get {K : Fg} {F : Hp} : ∀ {vs : List V} {ds : List D} {i : Nat} {d : D}, DpAll K F vs ds → ds[i]? = some d → ∃ v, vs[i]? = some v ∧ Dp K F v d
  | _, _, _, _, .nil, e => by simp at e
  | _, _, 0, _, .cons h _, e => by simp at e; subst e; exact ⟨_, rfl, h⟩
  | _, _, i + 1, d, .cons _ t, e => by
    obtain ⟨u, h1, h2⟩ := dpa_get (i := i) (d := d) t (by simpa using e)
    exact ⟨u, by simpa using h1, h2⟩
theorem dpa_append {K : Fg} {F : Hp} : ∀ {vs ws : List V} {ds es : List D}, DpAll K F vs ds → DpAll K F ws es → DpAll K F (vs ++ ws) (ds ++ es)
  | _, _, _, _, .nil, s => s
  | _, _, _, _, .cons r t, s => .cons r (dpa_append t s)
theorem dpa_take {K : Fg} {F : Hp} : ∀ {vs : List V} {ds : List D} (n : Nat), DpAll K F vs ds → DpAll K F (vs.take n) (ds.take n)
  | _, _, 0, _ => .nil
  | _, _, _ + 1, .nil => .nil
  | _, _, n + 1, .cons r t => .cons r (dpa_take n t)
theorem dpa_drop {K : Fg} {F : Hp} : ∀ {vs : List V} {ds : List D} (n : Nat), DpAll K F vs ds → DpAll K F (vs.drop n) (ds.drop n)
  | _, _, 0, r => r
  | _, _, _ + 1, .nil => .nil
  | _, _, n + 1, .cons _ t => dpa_drop n t
theorem dpa_set {K : Fg} {F : Hp} {v : V} {d : D} (h : Dp K F v d) : ∀ {vs : List V} {ds : List D} (n : Nat), DpAll K F vs ds → DpAll K F (vs.set n v) (ds.set n d)
  | _, _, _, .nil => .nil
  | _, _, 0, .cons _ t => .cons h t
  | _, _, n + 1, .cons r t => .cons r (dpa_set h n t)
/-- the heap is as it was, or has one new thing, to be read -/
inductive Grow (F H : Hp) : Hp → Hp → Prop
  | refl : Grow F H F H
  | new {p : Addr} (o : HO) : H p = none → Grow F H (upd F p o) (upd H p o)
section
variable {K : Fg} {c : Ctx} {O : List Kd} {F F' H H' : Hp} {σ : St} {fps : Nat → List Addr} {ds : DS}
theorem Grow.rel (g : Grow F H F' H') (r : Rel K c O F H σ fps ds) : Rel K c O F' H' σ fps ds ∧ Same F F' := by
  cases g with
  | refl => exact ⟨r, Same.refl _⟩
  | new o h => exact ⟨r.alloc h o, same_upd (r.fresh h).1⟩
def lsish : Kd → Bool
  | .ls .sh => true
  | .pm (.ls .sh) => true
  | _ => false
def Bm (K : Fg) (O : List Kd) (F : Hp) (σ : St) (v : V) : BR → Prop
  | .val d => Dp K F v d
  | .slot i => σ[i]? = some (some v) ∧ lsish (O.getD i .sh) = true
theorem all3_sh {xs : List V} {ds : List D} {fs : List (List Addr)} (h : All3 (Ow K F H .sh) xs ds fs) : DpAll K F xs ds ∧ fs.flatten = [] := by
  induction h with
  | nil => exact ⟨.nil, rfl⟩
  | cons h _ ih =>
    obtain ⟨e, h⟩ := h
    subst e
    exact ⟨.cons h ih.1, by simpa using ih.2⟩
theorem ow_ls {v : V} {d : D} {fp : List Addr} {k : Kd} (hk : lsish k = true) (h : Ow K F H k v d fp) : ∃ p xs ds, v = .ref p ∧ d = .list ds ∧ H p = some (.lst xs) ∧ fp = [p] ∧ DpAll K F xs ds := by
  have : Ow K F H (.ls .sh) v d fp := by
    unfold lsish at hk
    split at hk
    · exact h
    · exact h
    · cases hk
  obtain ⟨p, xs, ds, fs, rfl, rfl, hp, rfl, al⟩ := this
  obtain ⟨a, b⟩ := all3_sh al
  exact ⟨p, xs, ds, rfl, rfl, hp, by rw [b], a⟩
theorem ls_ow {p : Addr} {xs : List V} {ds : List D} (hp : H p = some (.lst xs)) (al : DpAll K F xs ds) : Ow K F H (.ls .sh) (.ref p) (.list ds) [p] := by
  have : ∃ fs : List (List Addr), fs.flatten = [] ∧ All3 (Ow K F H .sh) xs ds fs := by
    clear hp
    induction al using DpAll.rec (motive_1 := fun _ _ _ => True) with
    | nil => exact ⟨[], rfl, .nil⟩
    | cons h _ _ ih =>
      obtain ⟨fs, e, a⟩ := ih
      exact ⟨[] :: fs, by simpa using e, .cons ⟨rfl, h⟩ a⟩
    | _ => trivial
  obtain ⟨fs, e, a⟩ := this
  exact ⟨p, xs, ds, fs, rfl, rfl, hp, by rw [e], a⟩
theorem Bm.vw {br : BR} {v : V} {d : D} (r : Rel K c O F H σ fps ds) (b : Bm K O F σ v br) (e : res ds br = some d) : Vw K F H v d := by
  cases br with
  | val d' => cases e; exact .inl b
  | slot i =>
    unfold res at e
    simp only at e
    split at e
    · rename_i d' he
      cases e
      obtain ⟨u, hu, ow⟩ := r.slots i _ he
      rw [b.1] at hu
      cases hu
      obtain ⟨p, xs, ds', e1, e2, hp, _, al⟩ := ow_ls b.2 ow
      exact .inr ⟨p, xs, ds', e1, e2, hp, al⟩
    · cases e
theorem Bm.mono {br : BR} {v : V} (s : Same F F') (b : Bm K O F σ v br) : Bm K O F' σ v br := by
  cases br with
  | val d => exact dp_mono s b
  | slot i => exact b
end
structure DB (K : Fg) (c : Ctx) (O : List Kd) (t : TE) (m : M BR) : Prop where
  run : ∀ {F H : Hp} {σ : St} {fps : Nat → List Addr} {ds ds' : DS} {b : BR}, Rel K c O F H σ fps ds → m ds = .ok b ds' → ∀ Q : VK,
    (∀ F' H' fps' v, Same F F' → Rel K c O F' H' σ fps' ds' → Bm K O F' σ v b → Q v H') → t σ H Q
inductive BmA (K : Fg) (O : List Kd) (F : Hp) (σ : St) : List V → List BR → Prop
  | nil : BmA K O F σ [] []
  | cons {v b vs bs} : Bm K O F σ v b → BmA K O F σ vs bs → BmA K O F σ (v :: vs) (b :: bs)
structure DAB (K : Fg) (c : Ctx) (O : List Kd) (t : TA) (m : M (List BR)) : Prop where
  run : ∀ {F H : Hp} {σ : St} {fps : Nat → List Addr} {ds ds' : DS} {es : List BR}, Rel K c O F H σ fps ds → m ds = .ok es ds' → ∀ Q : List V → Hp → Prop,
    (∀ F' H' fps' vs, Same F F' → Rel K c O F' H' σ fps' ds' → BmA K O F' σ vs es → Q vs H') → t σ H Q
/-- an operation by values and its meaning on data -/
def OpG (K : Fg) (r : R2) (f : D → D → Option D) : Prop := ∀ (F H : Hp) (x y : V) (dx dy d : D), Same F H → Vw K F H x dx → Vw K F H y dy → f dx dy = some d → ∀ Q : VK, (∀ F' H' v, Grow F H F' H' → Dp K F' v d → Q v H') → r x y H Q
def UnG (K : Fg) (r : V → Hp → VK → Prop) (f : D → Option D) : Prop := ∀ (F H : Hp) (x : V) (dx d : D), Same F H → Vw K F H x dx → f dx = some d → ∀ Q : VK, (∀ F' H' v, Grow F H F' H' → Dp K F' v d → Q v H') → r x H Q
inductive VwA (K : Fg) (F H : Hp) : List V → List D → Prop
  | nil : VwA K F H [] []
  | cons {v d vs ds} : Vw K F H v d → VwA K F H vs ds → VwA K F H (v :: vs) (d :: ds)
def CaG (K : Fg) (r : List V → Hp → VK → Prop) (f : List D → Option D) : Prop := ∀ (F H : Hp) (xs : List V) (es : List D) (d : D), Same F H → VwA K F H xs es → f es = some d → ∀ Q : VK, (∀ F' H' v, Grow F H F' H' → Dp K F' v d → Q v H') → r xs H Q
theorem bnd_ok {α β : Type} {m : M α} {f : α → M β} {s s' : DS} {b : β} (h : bnd m f s = .ok b s') : ∃ a s1, m s = .ok a s1 ∧ f a s1 = .ok b s' := by
  unfold bnd at h
  cases e : m s with
  | ok a s1 => rw [e] at h; exact ⟨a, s1, rfl, h⟩
  | no => rw [e] at h; cases h
theorem opt_ok {α : Type} {o : Option α} {s s' : DS} {a : α} (h : opt o s = .ok a s') : o = some a ∧ s' = s := by
  unfold opt at h
  cases o with
  | none => cases h
  | some b => cases h; exact ⟨rfl, rfl⟩
section
variable {K : Fg} {c : Ctx} {O : List Kd} {ta tb tc te : TE} {tt tu : TT} {ma mb mc : M D} {m1 m2 : M Bool} {b1 b2 : M BR}
theorem DE.b (h : DE K c O ta ma) : DB K c O ta (mV ma) := ⟨fun {F H σ fps ds ds' b} r e Q q => by
  obtain ⟨d, s1, e1, e2⟩ := bnd_ok e
  cases e2
  exact h.run r e1 Q fun F' H' fps' v s r' dp => q F' H' fps' v s r' dp⟩
theorem d_var (i : Nat) (hk : O.getD i .sh = .sh := by rfl) : DE K c O (tVar i) (mVar i) := ⟨fun {F H σ fps ds ds' d} r e Q q => by
  unfold mVar at e
  split at e
  · rename_i d' he
    cases e
    obtain ⟨v, hv, ow⟩ := r.slots i _ he
    rw [hk] at ow
    exact ⟨v, hv, q F H fps v (Same.refl _) r ow.2⟩
  · cases e⟩
theorem d_slot (i : Nat) (hk : lsish (O.getD i .sh) = true := by rfl) : DB K c O (tVar i) (mSlot i) := ⟨fun {F H σ fps ds ds' b} r e Q q => by
  unfold mSlot at e
  split at e
  · rename_i d' he
    cases e
    obtain ⟨v, hv, ow⟩ := r.slots i _ he
    exact ⟨v, hv, q F H fps v (Same.refl _) r ⟨hv, hk⟩⟩
  · cases e⟩
theorem d_C {v : V} {d : D} (h : Sc v d) : DE K c O (tC v) (mC d) := ⟨fun r e Q q => by
  cases e
  exact q _ _ _ v (Same.refl _) r h.dp⟩
theorem d_int {i : Int} : DE K c O (tC (.int i)) (mC (.int i)) := d_C rfl
theorem d_bl {i : Bool} : DE K c O (tC (.bl i)) (mC (.bool i)) := d_C rfl
theorem d_str {i : Str} : DE K c O (tC (.str i)) (mC (.str i)) := d_C rfl
theorem d_non : DE K c O (tC .non) (mC .none) := d_C trivial
theorem d_op {r : R2} {f : D → D → Option D} (ho : OpG K r f) (ha : DB K c O ta b1) (hb : DB K c O tb b2) : DE K c O (tOp r ta tb) (mOp f b1 b2) := ⟨fun {F H σ fps ds ds' d} rl e Q q => by
  obtain ⟨x, s1, e1, g1⟩ := bnd_ok e
  obtain ⟨y, s2, e2, g2⟩ := bnd_ok g1
  refine ha.run rl e1 _ fun F1 H1 fps1 v sF r1 bv => ?_
  refine hb.run r1 e2 _ fun F2 H2 fps2 u sF2 r2 bu => ?_
  split at g2
  · rename_i dx dy hx hy
    obtain ⟨g3, z⟩ := opt_ok g2
    subst z
    refine ho F2 H2 v u dx dy d r2.sub (Bm.vw r2 (bv.mono sF2) hx) (Bm.vw r2 bu hy) g3 Q fun F3 H3 w g dp => ?_
    obtain ⟨r3, s3⟩ := g.rel r2
    exact q F3 H3 fps2 w ((sF.trans sF2).trans s3) r3 dp
  · cases g2⟩
theorem d_un {r : V → Hp → VK → Prop} {f : D → Option D} (ho : UnG K r f) (ha : DB K c O ta b1) : DE K c O (tUn r ta) (mUn f b1) := ⟨fun {F H σ fps ds ds' d} rl e Q q => by
  obtain ⟨x, s1, e1, g2⟩ := bnd_ok e
  refine ha.run rl e1 _ fun F1 H1 fps1 v sF r1 bv => ?_
  split at g2
  · rename_i dx hx
    obtain ⟨g3, z⟩ := opt_ok g2
    subst z
    refine ho F1 H1 v dx d r1.sub (Bm.vw r1 bv hx) g3 Q fun F3 H3 w g dp => ?_
    obtain ⟨r3, s3⟩ := g.rel r1
    exact q F3 H3 fps1 w (sF.trans s3) r3 dp
  · cases g2⟩
theorem d_test {m : M D} (h : DE K c O te m) : DT K c O (tTest te) (mB m) := ⟨fun {F H σ fps ds ds' b} r e Q q => by
  obtain ⟨d, s1, e1, e⟩ := bnd_ok e
  obtain ⟨e, z⟩ := opt_ok e
  subst z
  refine h.run r e1 _ fun F1 H1 fps1 v s r1 dp => ?_
  unfold tru at e
  split at e
  · cases e; cases dp; exact ⟨_, rfl, q F1 H1 fps1 s r1⟩
  · cases e⟩
theorem d_tB {m : M D} (h : DE K c O te m) : DT K c O (tB te) (mB m) := d_test h
theorem d_and (h1 : DT K c O tt m1) (h2 : DT K c O tu m2) : DT K c O (tAnd tt tu) (mAnd m1 m2) := ⟨fun {F H σ fps ds ds' b} r e Q q => by
  obtain ⟨d, s1, e1, e⟩ := bnd_ok e
  refine h1.run r e1 _ fun F1 H1 fps1 s r1 => ?_
  cases d with
  | true => exact iteT (h2.run r1 e _ fun F2 H2 fps2 s' r2 => q F2 H2 fps2 (s.trans s') r2)
  | false => cases e; exact iteF (q F1 H1 fps1 s r1)⟩
theorem d_or (h1 : DT K c O tt m1) (h2 : DT K c O tu m2) : DT K c O (tOr tt tu) (mOr m1 m2) := ⟨fun {F H σ fps ds ds' b} r e Q q => by
  obtain ⟨d, s1, e1, e⟩ := bnd_ok e
  refine h1.run r e1 _ fun F1 H1 fps1 s r1 => ?_
  cases d with
  | false => exact iteF (h2.run r1 e _ fun F2 H2 fps2 s' r2 => q F2 H2 fps2 (s.trans s') r2)
  | true => cases e; exact iteT (q F1 H1 fps1 s r1)⟩
theorem d_not (h1 : DT K c O tt m1) : DT K c O (tNot tt) (mNot m1) := ⟨fun {F H σ fps ds ds' b} r e Q q => by
  obtain ⟨d, s1, e1, e⟩ := bnd_ok e
  refine h1.run r e1 _ fun F1 H1 fps1 s r1 => ?_
  cases e
  exact q F1 H1 fps1 s r1⟩
theorem d_andV (h1 : DE K c O ta ma) (h2 : DE K c O tb mb) : DE K c O (tAndV ta tb) (mAndV ma mb) := ⟨fun {F H σ fps ds ds' b} r e Q q => by
  obtain ⟨d, s1, e1, e⟩ := bnd_ok e
  refine (d_test h1).run r e1 _ fun F1 H1 fps1 s r1 => ?_
  cases d with
  | true => exact iteT (h2.run r1 e _ fun F2 H2 fps2 v s' r2 => q F2 H2 fps2 v (s.trans s') r2)
  | false => cases e; exact iteF (q F1 H1 fps1 _ s r1 (.bl _))⟩
theorem d_orV (h1 : DE K c O ta ma) (h2 : DE K c O tb mb) : DE K c O (tOrV ta tb) (mOrV ma mb) := ⟨fun {F H σ fps ds ds' b} r e Q q => by
  obtain ⟨d, s1, e1, e⟩ := bnd_ok e
  refine (d_test h1).run r e1 _ fun F1 H1 fps1 s r1 => ?_
  cases d with
  | false => exact iteF (h2.run r1 e _ fun F2 H2 fps2 v s' r2 => q F2 H2 fps2 v (s.trans s') r2)
  | true => cases e; exact iteT (q F1 H1 fps1 _ s r1 (.bl _))⟩
theorem d_notV (h1 : DE K c O ta ma) : DE K c O (tNotV ta) (mNotV ma) := ⟨fun {F H σ fps ds ds' b} r e Q q => by
  obtain ⟨d, s1, e1, e⟩ := bnd_ok e
  refine (d_test h1).run r e1 _ fun F1 H1 fps1 s r1 => ?_
  cases e
  exact q F1 H1 fps1 _ s r1 (.bl _)⟩
theorem d_ifE (h0 : DT K c O tt m1) (h1 : DE K c O ta ma) (h2 : DE K c O tb mb) : DE K c O (tIf tt ta tb) (mIf m1 ma mb) := ⟨fun {F H σ fps ds ds' b} r e Q q => by
  obtain ⟨d, s1, e1, e⟩ := bnd_ok e
  refine h0.run r e1 _ fun F1 H1 fps1 s r1 => ?_
  cases d with
  | true => exact iteT (h1.run r1 e _ fun F2 H2 fps2 v s' r2 => q F2 H2 fps2 v (s.trans s') r2)
  | false => exact iteF (h2.run r1 e _ fun F2 H2 fps2 v s' r2 => q F2 H2 fps2 v (s.trans s') r2)⟩
theorem d_chain {r r' : R2} {f f' : D → D → Option D} (ho : OpG K r f) (ho' : OpG K r' f') (ha : DE K c O ta ma) (hb : DE K c O tb mb) (hc : DE K c O tc mc) : DE K c O (tChain r r' ta tb tc) (mChain f f' ma mb mc) := ⟨fun {F H σ fps ds ds' d} rl e Q q => by
  obtain ⟨x, s1, e1, g1⟩ := bnd_ok e
  obtain ⟨y, s2, e2, g2⟩ := bnd_ok g1
  obtain ⟨z, s3, e3, g3⟩ := bnd_ok g2
  obtain ⟨e4, hz⟩ := opt_ok e3
  subst hz
  refine ha.run rl e1 _ fun F1 H1 fps1 v sF r1 bv => ?_
  refine hb.run r1 e2 _ fun F2 H2 fps2 u sF2 r2 bu => ?_
  refine ho F2 H2 v u x y z r2.sub (.inl (dp_mono sF2 bv)) (.inl bu) e4 _ fun F3 H3 w g dp => ?_
  obtain ⟨r3, sF3⟩ := g.rel r2
  split at g3
  · cases dp
    refine ⟨_, rfl, iteT ?_⟩
    obtain ⟨w', s4, e5, g4⟩ := bnd_ok g3
    obtain ⟨g5, hz⟩ := opt_ok g4
    subst hz
    refine hc.run r3 e5 _ fun F4 H4 fps4 v4 s4 r4 bv4 => ?_
    refine ho' F4 H4 u v4 y w' d r4.sub (.inl (dp_mono (sF3.trans s4) bu)) (.inl bv4) g5 Q fun F5 H5 w5 g6 dp5 => ?_
    obtain ⟨r5, sF5⟩ := g6.rel r4
    exact q F5 H5 fps4 w5 ((((sF.trans sF2).trans sF3).trans s4).trans sF5) r5 dp5
  · cases dp
    cases g3
    exact ⟨_, rfl, iteF (q F3 H3 fps2 _ ((sF.trans sF2).trans sF3) r3 (.bl _))⟩
  · cases g3⟩
end
end Z
set_option Elab.async false
set_option linter.all false
set_option maxRecDepth 100000
namespace Z
open PySem L2
section
variable {K : Fg} {c : Ctx} {O : List Kd} {ta tb tc te : TE} {tt tu : TT} {ma mb mc : M D} {m1 m2 : M Bool} {b1 b2 : M BR} {tl : TA} {ml : M (List D)} {bl : M (List BR)}
/-! ### arguments, displays, built-ins -/
theorem da_nil : DA K c O tNil mNil := ⟨fun r e Q q => by cases e; exact q _ _ _ [] (Same.refl _) r .nil⟩
theorem da_cons (ha : DE K c O ta ma) (hl : DA K c O tl ml) : DA K c O (tCons ta tl) (mCons ma ml) := ⟨fun {F H σ fps ds ds' es} rl e Q q => by
  obtain ⟨x, s1, e1, g1⟩ := bnd_ok e
  obtain ⟨y, s2, e2, g2⟩ := bnd_ok g1
  cases g2
  refine ha.run rl e1 _ fun F1 H1 fps1 v sF r1 bv => ?_
  refine hl.run r1 e2 _ fun F2 H2 fps2 vs sF2 r2 bu => ?_
  exact q F2 H2 fps2 (v :: vs) (sF.trans sF2) r2 (.cons (dp_mono sF2 bv) bu)⟩
theorem BmA.mono {F F' : Hp} {σ : St} : ∀ {vs : List V} {bs : List BR}, Same F F' → BmA K O F σ vs bs → BmA K O F' σ vs bs
  | _, _, _, .nil => .nil
  | _, _, s, .cons h t => .cons (h.mono s) (t.mono s)
theorem dab_nil : DAB K c O tNil mNilB := ⟨fun r e Q q => by cases e; exact q _ _ _ [] (Same.refl _) r .nil⟩
theorem dab_cons (ha : DB K c O ta b1) (hl : DAB K c O tl bl) : DAB K c O (tCons ta tl) (mConsB b1 bl) := ⟨fun {F H σ fps ds ds' es} rl e Q q => by
  obtain ⟨x, s1, e1, g1⟩ := bnd_ok e
  obtain ⟨y, s2, e2, g2⟩ := bnd_ok g1
  cases g2
  refine ha.run rl e1 _ fun F1 H1 fps1 v sF r1 bv => ?_
  refine hl.run r1 e2 _ fun F2 H2 fps2 vs sF2 r2 bu => ?_
  exact q F2 H2 fps2 (v :: vs) (sF.trans sF2) r2 (.cons (bv.mono sF2) bu)⟩
theorem fits_of {n : Nat} (h : fits n = true) : n ≤ sizeLine := of_decide_eq_true h
theorem d_tup (h : DA K c O tl ml) : DE K c O (tTup tl) (mTup ml) := ⟨fun {F H σ fps ds ds' d} rl e Q q => by
  obtain ⟨xs, s1, e1, g1⟩ := bnd_ok e
  obtain ⟨g2, z⟩ := opt_ok g1
  subst z
  split at g2
  · rename_i hf
    cases g2
    refine h.run rl e1 _ fun F1 H1 fps1 vs sF r1 bv => ?_
    refine ⟨by rw [dpa_len bv]; exact fits_of hf, fun p hp => ?_⟩
    have s2 : Same F1 (upd F1 p (.tup vs)) := same_upd (r1.fresh hp).1
    exact q _ _ fps1 (.ref p) (sF.trans s2) (r1.alloc hp _) (.tup (SqT.of upd_same) (dpa_mono s2 bv))
  · cases g2⟩
theorem d_lst (h : DA K c O tl ml) : DE K c O (tLst tl) (mLst ml) := ⟨fun {F H σ fps ds ds' d} rl e Q q => by
  obtain ⟨xs, s1, e1, g1⟩ := bnd_ok e
  obtain ⟨g2, z⟩ := opt_ok g1
  subst z
  split at g2
  · rename_i hf
    cases g2
    refine h.run rl e1 _ fun F1 H1 fps1 vs sF r1 bv => ?_
    refine ⟨by rw [dpa_len bv]; exact fits_of hf, fun p hp => ?_⟩
    have s2 : Same F1 (upd F1 p (.lst vs)) := same_upd (r1.fresh hp).1
    exact q _ _ fps1 (.ref p) (sF.trans s2) (r1.alloc hp _) (.lst (SqL.of upd_same) (dpa_mono s2 bv))
  · cases g2⟩
theorem o_lst (h : DA K c O tl ml) : DO K c O (.ls .sh) (tLst tl) (mLst ml) := ⟨fun {F H σ fps ds ds' d} rl e Q q => by
  obtain ⟨xs, s1, e1, g1⟩ := bnd_ok e
  obtain ⟨g2, z⟩ := opt_ok g1
  subst z
  split at g2
  · rename_i hf
    cases g2
    refine h.run rl e1 _ fun F1 H1 fps1 vs sF r1 bv => ?_
    refine ⟨by rw [dpa_len bv]; exact fits_of hf, fun p hp => ?_⟩
    obtain ⟨hF, h0, hq⟩ := r1.fresh hp
    refine q F1 _ fps1 (.ref p) [p] sF (r1.allocO hp _) (ls_ow upd_same bv) (fun q' hq' => ?_) (by simp)
    have : q' = p := by simpa using hq'
    subst this
    exact ⟨hF, by rw [upd_same]; simp, h0, hq⟩
  · cases g2⟩
theorem resA {F H : Hp} {σ : St} {fps : Nat → List Addr} {ds : DS} (r : Rel K c O F H σ fps ds) : ∀ {vs : List V} {bs : List BR} {es : List D}, BmA K O F σ vs bs → bs.mapM (res ds) = some es → VwA K F H vs es
  | _, _, es, .nil, e => by cases e; exact .nil
  | _, _, es, .cons (b := b) (bs := bs) h t, e => by
    rw [List.mapM_cons] at e
    cases e1 : res ds b with
    | none => rw [e1] at e; cases e
    | some d =>
      cases e2 : bs.mapM (res ds) with
      | none => rw [e1, e2] at e; cases e
      | some ds' =>
        rw [e1, e2] at e
        cases e
        exact .cons (Bm.vw r h e1) (resA r t e2)
theorem d_cb {r : List V → Hp → VK → Prop} {f : List D → Option D} (hc : CaG K r f) (h : DAB K c O tl bl) : DE K c O (tCB r tl) (mB1 f bl) := ⟨fun {F H σ fps ds ds' d} rl e Q q => by
  obtain ⟨xs, s1, e1, g1⟩ := bnd_ok e
  split at g1
  · rename_i es he
    obtain ⟨g2, z⟩ := opt_ok g1
    subst z
    refine h.run rl e1 _ fun F1 H1 fps1 vs sF r1 bv => ?_
    refine hc F1 H1 vs es d r1.sub (resA r1 bv he) g2 Q fun F2 H2 v g dp => ?_
    obtain ⟨r2, s2⟩ := g.rel r1
    exact q F2 H2 fps1 v (sF.trans s2) r2 dp
  · cases g1⟩
end
/-! ### operations on data -/
def i2 (g : Int → Int → Option D) : D → D → Option D
  | .int i, .int j => g i j
  | _, _ => none
section
variable {K : Fg}
theorem g_int {r : R2} {g : Int → Int → Option D} (h : ∀ (i j : Int) (d : D) (H : Hp) (Q : VK), g i j = some d → (∀ v, Sc v d → Q v H) → r (.int i) (.int j) H Q) : OpG K r (i2 g) := fun F H x y dx dy d sF vx vy e Q q => by
  unfold i2 at e
  split at e
  · rw [vx.int, vy.int]
    exact h _ _ d H Q e fun v sc => q F H v .refl sc.dp
  · cases e
theorem g_I0 {g : Int → Int → V} {g' : Int → Int → D} (h : ∀ i j, Sc (g i j) (g' i j)) : OpG K (rI0 g) (i2 fun i j => some (g' i j)) := g_int fun i j d H Q e q => by
  cases e
  exact ⟨i, j, rfl, rfl, q _ (h i j)⟩
theorem g_I {C : Int → Int → Prop} {C' : Int → Int → Bool} {g : Int → Int → V} {g' : Int → Int → D} (hC : ∀ i j, C' i j = true → C i j) (h : ∀ i j, Sc (g i j) (g' i j)) : OpG K (rI C g) (i2 fun i j => if C' i j then some (g' i j) else none) := g_int fun i j d H Q e q => by
  split at e
  · rename_i hc
    cases e
    exact ⟨i, j, rfl, rfl, hC i j hc, q _ (h i j)⟩
  · cases e
def addI := i2 fun i j => some (.int (i + j))
def subI := i2 fun i j => some (.int (i - j))
/-- how great numbers may be for a product -/
@[irreducible] def mulC (i j : Int) : Bool := decide ((Builtin.Int.intBits i : Int) + (Builtin.Int.intBits j : Int) ≤ 134217728)
def mulI := i2 fun i j => if mulC i j then some (.int (i * j)) else none
@[irreducible] def divC (_i j : Int) : Bool := decide (0 < j ∧ j.natAbs.log2 < 9000)
def divI := i2 fun i j => if divC i j then some (.int (i / j)) else none
def modC (_i j : Int) : Bool := decide (0 < j)
def modI := i2 fun i j => if modC i j then some (.int (i % j)) else none
def powC (i j : Int) : Bool := decide (0 ≤ j ∧ j ≤ 1000000 ∧ i.natAbs < 18446744073709551616)
def powI := i2 fun i j => if powC i j then some (.int (i ^ j.toNat)) else none
@[irreducible] def shlC (i j : Int) : Bool := decide (0 ≤ j ∧ (Builtin.Int.intBits i : Int) + j ≤ 134217728)
def shlI := i2 fun i j => if shlC i j then some (.int (i * 2 ^ j.toNat)) else none
def shrC (_i j : Int) : Bool := decide (0 ≤ j)
def shrI := i2 fun i j => if shrC i j then some (.int (i / 2 ^ j.toNat)) else none
def andI := i2 fun i j => some (.int (Builtin.bitAnd i j))
def orI := i2 fun i j => some (.int (Builtin.bitOr i j))
def xorI := i2 fun i j => some (.int (Builtin.bitXor i j))
def ltI := i2 fun i j => some (.bool (decide (i < j)))
def leI := i2 fun i j => some (.bool (decide (i ≤ j)))
def gtI := i2 fun i j => some (.bool (decide (j < i)))
def geI := i2 fun i j => some (.bool (decide (j ≤ i)))
theorem g_sub : OpG K (rI0 fun i j => .int (i - j)) subI := g_I0 fun _ _ => rfl
theorem g_mul : OpG K (rI CMulX fun i j => .int (i * j)) mulI := g_I (fun i j h => (of_decide_eq_true (by unfold mulC at h; exact h) : (Builtin.Int.intBits i : Int) + (Builtin.Int.intBits j : Int) ≤ 134217728)) fun _ _ => rfl
theorem g_div : OpG K (rI CDivW fun i j => .int (i / j)) divI := g_I (fun i j h => (of_decide_eq_true (by unfold divC at h; exact h) : 0 < j ∧ j.natAbs.log2 < 9000)) fun _ _ => rfl
theorem g_mod : OpG K (rI (fun _ j => 0 < j) fun i j => .int (i % j)) modI := g_I (fun _ _ h => of_decide_eq_true h) fun _ _ => rfl
theorem g_pow : OpG K (rI CPow fun i j => .int (i ^ j.toNat)) powI := g_I (fun i j h => (of_decide_eq_true h : 0 ≤ j ∧ j ≤ 1000000 ∧ i.natAbs < 18446744073709551616)) fun _ _ => rfl
theorem g_shl : OpG K (rI CShl fun i j => .int (i * 2 ^ j.toNat)) shlI := g_I (fun i j h => (of_decide_eq_true (by unfold shlC at h; exact h) : 0 ≤ j ∧ (Builtin.Int.intBits i : Int) + j ≤ 134217728)) fun _ _ => rfl
theorem g_shr : OpG K (rI (fun _ j => 0 ≤ j) fun i j => .int (i / 2 ^ j.toNat)) shrI := g_I (fun _ _ h => of_decide_eq_true h) fun _ _ => rfl
theorem g_and : OpG K (rI0 fun i j => .int (Builtin.bitAnd i j)) andI := g_I0 fun _ _ => rfl
theorem g_or : OpG K (rI0 fun i j => .int (Builtin.bitOr i j)) orI := g_I0 fun _ _ => rfl
theorem g_xor : OpG K (rI0 fun i j => .int (Builtin.bitXor i j)) xorI := g_I0 fun _ _ => rfl
theorem g_lt : OpG K (rI0 fun i j => .bl (decide (i < j))) ltI := g_I0 fun _ _ => rfl
theorem g_le : OpG K (rI0 fun i j => .bl (decide (i ≤ j))) leI := g_I0 fun _ _ => rfl
theorem g_gt : OpG K (rI0 fun i j => .bl (decide (j < i))) gtI := g_I0 fun _ _ => rfl
theorem g_ge : OpG K (rI0 fun i j => .bl (decide (j ≤ i))) geI := g_I0 fun _ _ => rfl
/-- == -/
def eqB : D → D → Option Bool
  | .int i, .int j => some (decide (i = j))
  | d, e => if SeqAt.shaped d && SeqAt.shaped e then some (PyData.eqv d e) else none
def eqD (x y : D) : Option D := (eqB x y).map .bool
def neD (x y : D) : Option D := (eqB x y).map fun b => .bool (!b)
theorem shaped_int (i : Int) : SeqAt.shaped (.int i) = true := by simp [SeqAt.shaped, PyData.canLay0, PyData.depth]
theorem eqB_all {d e : D} {b : Bool} (h : eqB d e = some b) : SeqAt.shaped d = true ∧ SeqAt.shaped e = true ∧ b = PyData.eqv d e := by
  unfold eqB at h
  split at h
  · cases h
    exact ⟨shaped_int _, shaped_int _, by rw [PyData.eqv]; exact (Bool.beq_eq_decide_eq _ _).symm⟩
  · split at h
    · rename_i hs
      rw [Bool.and_eq_true] at hs
      cases h
      exact ⟨hs.1, hs.2, rfl⟩
    · cases h
theorem g_eq : OpG K (rEqD K) eqD := fun F H x y dx dy d sF vx vy e Q q => by
  unfold eqD at e
  cases h : eqB dx dy with
  | none => rw [h] at e; cases e
  | some b =>
    rw [h] at e
    cases e
    obtain ⟨h1, h2, h3⟩ := eqB_all h
    subst h3
    exact ⟨dx, dy, vx.dp sF, vy.dp sF, h1, h2, q F H _ .refl (.bl _)⟩
theorem g_ne : OpG K (rNeD K) neD := fun F H x y dx dy d sF vx vy e Q q => by
  unfold neD at e
  cases h : eqB dx dy with
  | none => rw [h] at e; cases e
  | some b =>
    rw [h] at e
    cases e
    obtain ⟨h1, h2, h3⟩ := eqB_all h
    subst h3
    exact ⟨dx, dy, vx.dp sF, vy.dp sF, h1, h2, q F H _ .refl (.bl _)⟩
/-- xs[i] -/
theorem atI_map {F : Hp} {vs : List V} {ds : List D} {i : Int} {d : D} (h : DpAll K F vs ds) (e : atI ds i = some d) : ∃ v, atI vs i = some v ∧ Dp K F v d := by
  unfold atI at e ⊢
  rw [dpa_len h]
  cases z : ixN ds.length i with
  | none => rw [z] at e; cases e
  | some j => rw [z] at e; exact dpa_get h e
def ixD : D → D → Option D
  | .list xs, .int i => atI xs i
  | .tuple xs, .int i => atI xs i
  | .str z, .int i => if fits z.length then (atI z.cps.toList i).map fun c => .str ⟨#[c]⟩ else none
  | _, _ => none
theorem g_ix : OpG K (rIx K) ixD := fun F H x y dx dy d sF vx vy e Q q => by
  unfold ixD at e
  split at e
  · obtain ⟨p, xs, rfl, sq, al⟩ := vx.lst sF
    obtain ⟨v, hv, dp⟩ := atI_map al e
    rw [vy.int]
    exact .inl ⟨p, xs, _, v, rfl, rfl, sq, hv, q F H v .refl dp⟩
  · obtain ⟨p, xs, rfl, sq, al⟩ := vx.tup sF
    obtain ⟨v, hv, dp⟩ := atI_map al e
    rw [vy.int]
    exact .inr (.inl ⟨p, xs, _, v, rfl, rfl, sq, hv, q F H v .refl dp⟩)
  · split at e
    · rename_i hf
      rw [vx.str, vy.int]
      rename_i z i
      cases h : atI z.cps.toList i with
      | none => rw [h] at e; cases e
      | some cc =>
        rw [h] at e
        cases e
        exact .inr (.inr ⟨z, i, cc, rfl, rfl, fits_of hf, h, q F H _ .refl (.str _)⟩)
    · cases e
  · cases e
/-- -x -/
def u1 (g : Int → D) : D → Option D
  | .int i => some (g i)
  | _ => none
theorem g_u {g : Int → V} {g' : Int → D} (h : ∀ i, Sc (g i) (g' i)) : UnG K (rU g) (u1 g') := fun F H x dx d sF vx e Q q => by
  unfold u1 at e
  split at e
  · cases e
    rw [vx.int]
    exact ⟨_, rfl, q F H _ .refl (h _).dp⟩
  · cases e
def negI := u1 fun i => .int (-i)
theorem g_neg : UnG K (rU fun i => .int (-i)) negI := g_u fun _ => rfl
end
end Z
set_option Elab.async false
set_option linter.all false
set_option maxRecDepth 100000
namespace Z
open PySem L2
/-! ### statements -/
def sNx : MS := fun s => .nx s
def sSeq (a b : MS) : MS := fun s => match a s with
  | .nx s' => b s'
  | .rt d s' => .rt d s'
  | .bk s' => .bk s'
  | .ct s' => .ct s'
  | .ex x s' => .ex x s'
  | .no => .no
def sSet (i : Nat) (m : M D) : MS := fun s => match m s with
  | .ok d s' => .nx (s'.set i (some d))
  | .no => .no
def sDrop (m : M D) : MS := fun s => match m s with
  | .ok _ s' => .nx s'
  | .no => .no
def sRet (m : M D) : MS := fun s => match m s with
  | .ok d s' => .rt d s'
  | .no => .no
def sIf (t : M Bool) (a b : MS) : MS := fun s => match t s with
  | .ok true s' => a s'
  | .ok false s' => b s'
  | .no => .no
def sNo : MS := fun _ => .no
def sBk : MS := fun s => .bk s
def sCt : MS := fun s => .ct s
/-- targets -/
abbrev MG := D → DS → Option DS
def gN (i : Nat) : MG := fun d s => some (s.set i (some d))
def gT (n : Nat) (g : List D → DS → Option DS) : MG := fun d s => match d with
  | .tuple xs => if xs.length = n then g xs s else none
  | _ => none
def gL (n : Nat) (g : List D → DS → Option DS) : MG := fun d s => match d with
  | .list xs => if xs.length = n then g xs s else none
  | _ => none
def gC (a : MG) (r : List D → DS → Option DS) : List D → DS → Option DS := fun xs s => match xs with
  | x :: ys => match a x s with
    | some s' => r ys s'
    | none => none
  | [] => none
def gE : List D → DS → Option DS := fun xs s => match xs with
  | [] => some s
  | _ => none
def sAsg (m : M D) (g : MG) : MS := fun s => match m s with
  | .ok d s' => match g d s' with
    | some s2 => .nx s2
    | none => .no
  | .no => .no
/-- xs.append(e), xs a list of one's own -/
def sApp (i : Nat) (m : M D) : MS := fun s => match s[i]? with
  | some (some (.list _)) => match m s with
    | .ok d s' => match s'[i]? with
      | some (some (.list xs)) => if decide (xs.length < sizeLine) then .nx (s'.set i (some (.list (xs ++ [d])))) else .no
      | _ => .no
    | .no => .no
  | _ => .no
/-- xs[e] = m, xs a list of one's own -/
def sPut (i : Nat) (me : M D) (m : M D) : MS := fun s => match m s with
  | .ok d s1 => match s1[i]? with
    | some (some (.list _)) => match me s1 with
      | .ok k s2 => match k, s2[i]? with
        | .int k, some (some (.list xs)) => match ixN xs.length k with
          | some j => .nx (s2.set i (some (.list (xs.set j d))))
          | none => .no
        | _, _ => .no
      | .no => .no
    | _ => .no
  | .no => .no
/-- loops -/
def turn (f : DS → RS) : RS → RS
  | .nx s => f s
  | .ct s => f s
  | .bk s => .nx s
  | .rt d s => .rt d s
  | .ex x s => .ex x s
  | .no => .no
def loop (g : MG) (b : MS) : List D → MS
  | [], s => .nx s
  | d :: r, s => match g d s with
    | some s' => turn (loop g b r) (b s')
    | none => .no
def sFor (mi : M (List D)) (g : MG) (b : MS) : MS := fun s => match mi s with
  | .ok xs s' => loop g b xs s'
  | .no => .no
def wl (t : M Bool) (b : MS) : Nat → MS
  | 0, _ => .no
  | n + 1, s => match t s with
    | .ok true s' => turn (wl t b n) (b s')
    | .ok false s' => .nx s'
    | .no => .no
open Classical in
noncomputable def sWhile (t : M Bool) (b : MS) : MS := fun s => if h : ∃ n, wl t b n s ≠ .no then wl t b (Classical.choose h) s else .no
theorem wl_mono {t : M Bool} {b : MS} : ∀ {n : Nat} {s : DS} (k : Nat), wl t b n s ≠ .no → wl t b (n + k) s = wl t b n s
  | 0, s, k, h => absurd rfl h
  | n + 1, s, k, h => by
    rw [show n + 1 + k = (n + k) + 1 by omega]
    unfold wl at h ⊢
    cases e : t s with
    | no => simp [e] at h
    | ok v s' =>
      rw [e] at h
      cases v with
      | false => rfl
      | true =>
        dsimp only at h ⊢
        cases e2 : b s' with
        | nx s2 => rw [e2] at h; exact wl_mono k h
        | ct s2 => rw [e2] at h; exact wl_mono k h
        | bk s2 => rfl
        | rt d s2 => rfl
        | ex x s2 => rfl
        | no => rfl
theorem sWhile_of {t : M Bool} {b : MS} {s : DS} {r : RS} (n : Nat) (h : wl t b n s = r) (hr : r ≠ .no) : sWhile t b s = r := by
  have hx : ∃ n, wl t b n s ≠ .no := ⟨n, by rw [h]; exact hr⟩
  unfold sWhile
  rw [dif_pos hx]
  have h1 := Classical.choose_spec hx
  have h2 : wl t b n s ≠ .no := by rw [h]; exact hr
  have a := wl_mono n h1
  have b' := wl_mono (Classical.choose hx) h2
  rw [← a, Nat.add_comm, b', h]
section
variable {K : Fg} {c : Ctx} {Ob O O' O2 : List Kd} {te : TE} {tt : TT} {t u : TS} {m : M D} {m1 : M Bool} {a b : MS}
theorem Post.mono {F F' : Hp} {E : Ends} {r : RS} (s : Same F F') (h : Post K c Ob O' F E r) : Post K c Ob O' F' E r := by
  cases r with
  | nx _ => exact fun F2 H2 σ2 fps2 s2 => h F2 H2 σ2 fps2 (s.trans s2)
  | bk _ => exact fun F2 H2 σ2 fps2 s2 => h F2 H2 σ2 fps2 (s.trans s2)
  | ct _ => exact fun F2 H2 σ2 fps2 s2 => h F2 H2 σ2 fps2 (s.trans s2)
  | rt _ _ => exact fun F2 H2 σ2 fps2 O2 v fpv s2 => h F2 H2 σ2 fps2 O2 v fpv (s.trans s2)
  | ex _ _ => exact fun F2 H2 σ2 fps2 O2 cls dd hO s2 => h F2 H2 σ2 fps2 O2 cls dd hO (s.trans s2)
  | no => exact h
theorem c_nil : DC K c Ob O tNext sNx O := ⟨fun r E p => p _ _ _ _ (Same.refl _) r⟩
theorem c_cons (h1 : DC K c Ob O t a O2) (h2 : DC K c Ob O2 u b O') : DC K c Ob O (tSeq t u) (sSeq a b) O' := ⟨fun {F H σ fps ds} r E p => by
  refine h1.run r _ ?_
  show Post K c Ob O2 F { E with nx := u E } (a ds)
  have p' : Post K c Ob O' F E (sSeq a b ds) := p
  unfold sSeq at p'
  cases e : a ds with
  | nx s' => rw [e] at p'; exact fun F1 H1 σ1 fps1 s1 r1 => h2.run r1 E (p'.mono s1)
  | bk _ => rw [e] at p'; exact p'
  | ct _ => rw [e] at p'; exact p'
  | rt _ _ => rw [e] at p'; exact p'
  | ex _ _ => rw [e] at p'; exact p'
  | no => rw [e] at p'; exact p'⟩
theorem c_set (i : Nat) (h : DE K c O te m) (hi : i < O.length := by first | decide | exact of_decide_eq_true rfl) (hp : isPm O[i]? = false := by rfl) : DC K c Ob O (tAsg te (gName i)) (sSet i m) (O.set i .sh) := ⟨fun {F H σ fps ds} r E p => by
  unfold sSet at p
  cases e : m ds with
  | no => rw [e] at p; exact p.elim
  | ok d s' =>
    rw [e] at p
    refine h.run r e _ fun F1 H1 fps1 v s1 r1 dp => ?_
    exact p F1 H1 _ _ s1 (r1.put hi hp (k := .sh) (fpv := []) ⟨rfl, dp⟩ (fun q hq => absurd hq (by simp)) (by simp))⟩
theorem c_setO (i : Nat) {k : Kd} (h : DO K c O k te m) (hi : i < O.length := by first | decide | exact of_decide_eq_true rfl) (hp : isPm O[i]? = false := by rfl) : DC K c Ob O (tAsg te (gName i)) (sSet i m) (O.set i k) := ⟨fun {F H σ fps ds} r E p => by
  unfold sSet at p
  cases e : m ds with
  | no => rw [e] at p; exact p.elim
  | ok d s' =>
    rw [e] at p
    refine h.run r e _ fun F1 H1 fps1 v fpv s1 r1 ow hf nd => ?_
    exact p F1 H1 _ _ s1 (r1.put hi hp ow (fun q hq => ⟨(hf q hq).1, (hf q hq).2.1, (hf q hq).2.2.1, fun j _ => (hf q hq).2.2.2 j⟩) nd)⟩
theorem c_drop (h : DE K c O te m) : DC K c Ob O (tDrop te) (sDrop m) O := ⟨fun {F H σ fps ds} r E p => by
  unfold sDrop at p
  cases e : m ds with
  | no => rw [e] at p; exact p.elim
  | ok d s' =>
    rw [e] at p
    exact h.run r e _ fun F1 H1 fps1 v s1 r1 dp => p F1 H1 _ _ s1 r1⟩
theorem c_ret (h : DE K c O te m) (hk : c.rk = .sh) : DC K c Ob O (tRet te) (sRet m) O' := ⟨fun {F H σ fps ds} r E p => by
  unfold sRet at p
  cases e : m ds with
  | no => rw [e] at p; exact p.elim
  | ok d s' =>
    rw [e] at p
    exact h.run r e _ fun F1 H1 fps1 v s1 r1 dp => p F1 H1 σ fps1 O v [] s1 r1 (by rw [hk]; exact ⟨rfl, dp⟩) (fun q hq => absurd hq (by simp)) (by simp)⟩
theorem c_retO {k : Kd} (h : DO K c O k te m) (hk : c.rk = k) : DC K c Ob O (tRet te) (sRet m) O' := ⟨fun {F H σ fps ds} r E p => by
  unfold sRet at p
  cases e : m ds with
  | no => rw [e] at p; exact p.elim
  | ok d s' =>
    rw [e] at p
    refine h.run r e _ fun F1 H1 fps1 v fpv s1 r1 ow hf nd => p F1 H1 σ fps1 O v fpv s1 r1 (by rw [hk]; exact ow) (fun q hq => ?_) nd
    obtain ⟨h1, h2, h3, h4⟩ := hf q hq
    exact ⟨h1, h2, h3, fun i _ => h4 i⟩⟩
theorem c_if (h : DT K c O tt m1) (h1 : DC K c Ob O t a O') (h2 : DC K c Ob O u b O') : DC K c Ob O (tIfS tt t u) (sIf m1 a b) O' := ⟨fun {F H σ fps ds} r E p => by
  unfold sIf at p
  cases e : m1 ds with
  | no => rw [e] at p; exact p.elim
  | ok v s' =>
    rw [e] at p
    refine h.run r e _ fun F1 H1 fps1 s1 r1 => ?_
    cases v with
    | true => exact iteT (h1.run r1 E (p.mono s1))
    | false => exact iteF (h2.run r1 E (p.mono s1))⟩
theorem c_never : DC K c Ob O tNever sNo O' := ⟨fun r E p => p.elim⟩
theorem c_bk : DC K c O O tBreak sBk O' := ⟨fun r E p => p _ _ _ _ (Same.refl _) r⟩
theorem c_ct : DC K c O O tCont sCt O' := ⟨fun r E p => p _ _ _ _ (Same.refl _) r⟩
/-! ### freezing: a list of one's own is read alone from now on -/
theorem frz_sh {F H : Hp} {p : Addr} {xs : List V} {ds : List D} (hp : H p = some (.lst xs)) (al : DpAll K F xs ds) (hF : F p = none) : Dp K (upd F p (.lst xs)) (.ref p) (.list ds) := .lst (SqL.of upd_same) (dpa_mono (same_upd hF) al)
theorem Rel.freeze {F H : Hp} {σ : St} {fps : Nat → List Addr} {ds : DS} (r : Rel K c O F H σ fps ds) (i : Nat) (hk : O[i]? = some (.ls .sh)) (hs : ∃ d, ds[i]? = some (some d)) :
    ∃ F', Same F F' ∧ Rel K c (O.set i .sh) F' H σ (fun j => if j = i then [] else fps j) ds := by
  obtain ⟨d, hd⟩ := hs
  obtain ⟨v, hv, ow⟩ := r.slots i d hd
  have hk' : O.getD i .sh = .ls .sh := by rw [List.getD_eq_getElem?_getD, hk]; rfl
  have hi : i < O.length := (List.getElem?_eq_some_iff.mp hk).1
  rw [hk'] at ow
  obtain ⟨p, xs, es, rfl, rfl, hp, hfp, al⟩ := ow_ls rfl ow
  have hmem : p ∈ fps i := by rw [hfp]; simp
  obtain ⟨hF, hH, h0⟩ := r.off i p hmem
  have hnp : ∀ k, c.pk i ≠ some k := fun k z => by
    have := (r.par i k z).1
    rw [hk] at this
    cases this
  have h0' : c.H0 p = none := by
    rcases h0 with h | ⟨_, h⟩
    · exact h
    · rw [hk] at h; cases h
  have sF : Same F (upd F p (.lst xs)) := same_upd hF
  have hoff : ∀ j q, j ≠ i → q ∈ fps j → q ≠ p := fun j q hj hq z => by subst z; exact r.dj j i hj q hq hmem
  refine ⟨upd F p (.lst xs), sF, fun b o e => ?_, r.base.trans sF, r.keep, r.live, fun b o e => ?_, fun j d' hj => ?_, fun j q hq => ?_, fun j => ?_, fun j l hjl q hq hq' => ?_, fun j k h => ?_, r.len⟩
  · by_cases hb : b = p
    · subst hb; rw [upd_same] at e; rw [hp]; exact e
    · rw [upd_ne hb] at e; exact r.sub b o e
  · by_cases hb : b = p
    · subst hb; exact .inr h0'
    · rw [upd_ne hb] at e; exact r.new b o e
  · by_cases z : j = i
    · subst z
      rw [hd] at hj
      cases hj
      refine ⟨_, hv, ?_⟩
      rw [getD_set_eq hi]
      simp only [if_pos]
      exact ⟨rfl, frz_sh hp al hF⟩
    · obtain ⟨u, hu, w⟩ := r.slots j d' hj
      refine ⟨u, hu, ?_⟩
      rw [getD_set_ne z]
      simp only [if_neg z]
      exact ow_mono sF w fun _ _ => rfl
  · by_cases z : j = i
    · simp only [z, if_pos] at hq
      exact absurd hq (by simp)
    · simp only [if_neg z] at hq
      rw [List.getElem?_set_ne (Ne.symm z), upd_ne (hoff j q z hq)]
      exact r.off j q hq
  · by_cases z : j = i
    · simp only [z, if_pos]; simp
    · simp only [if_neg z]; exact r.nd j
  · by_cases z : j = i
    · simp only [z, if_pos] at hq
      exact absurd hq (by simp)
    · by_cases z' : l = i
      · simp only [z', if_pos] at hq'
        exact absurd hq' (by simp)
      · simp only [if_neg z] at hq
        simp only [if_neg z'] at hq'
        exact r.dj j l hjl q hq hq'
  · obtain ⟨x, y⟩ := r.par j k h
    have hj : j ≠ i := fun z => by subst z; exact hnp k h
    exact ⟨by rw [List.getElem?_set_ne (Ne.symm hj)]; exact x, y⟩
/-- from here on slot i is read alone -/
def sFrz (i : Nat) (b : MS) : MS := fun s => match s[i]? with
  | some (some _) => b s
  | _ => .no
theorem c_frz (i : Nat) (hk : O[i]? = some (.ls .sh)) (h : DC K c Ob (O.set i .sh) t b O') : DC K c Ob O t (sFrz i b) O' := ⟨fun {F H σ fps ds} r E p => by
  unfold sFrz at p
  split at p
  · rename_i d hd
    obtain ⟨F', s, r'⟩ := r.freeze i hk ⟨d, hd⟩
    exact h.run r' E (p.mono s)
  · exact p.elim⟩
/-! ### lists of one's own are changed -/
theorem Rel.mut {F H : Hp} {σ : St} {fps : Nat → List Addr} {ds : DS} (r : Rel K c O F H σ fps ds) {i : Nat} {p : Addr} {xs : List V} {es : List D} (hk : lsish (O.getD i .sh) = true) (hs : ∃ d, ds[i]? = some (some d)) (hv : σ[i]? = some (some (.ref p))) (hp : fps i = [p]) (al : DpAll K F xs es) :
    Rel K c O F (upd H p (.lst xs)) σ fps (ds.set i (some (.list es))) := by
  have hmem : p ∈ fps i := by rw [hp]; simp
  obtain ⟨hF, hH, h0⟩ := r.off i p hmem
  have hoff : ∀ j q, j ≠ i → q ∈ fps j → q ≠ p := fun j q hj hq z => by subst z; exact r.dj j i hj q hq hmem
  obtain ⟨d0, hd0⟩ := hs
  have hl : i < ds.length := (List.getElem?_eq_some_iff.mp hd0).1
  refine ⟨fun b o e => ?_, r.base, fun b o e n => ?_, fun b e => ?_, r.new, fun j d hj => ?_, fun j q hq => ?_, r.nd, r.dj, r.par, by rw [List.length_set]; exact r.len⟩
  · rw [upd_ne (ne_of_none e hF)]; exact r.sub b o e
  · have hb : b ≠ p := fun z => by
      subst z
      rcases h0 with h | ⟨h, _⟩
      · rw [h] at e; cases e
      · exact n ⟨_, h⟩
    rw [upd_ne hb]; exact r.keep b o e n
  · by_cases hb : b = p
    · subst hb; rw [upd_same] at e; cases e
    · rw [upd_ne hb] at e; exact r.live b e
  · by_cases z : j = i
    · subst z
      rw [List.getElem?_set_self hl] at hj
      cases hj
      refine ⟨_, hv, ?_⟩
      rw [hp]
      have ow : Ow K F (upd H p (.lst xs)) (.ls .sh) (.ref p) (.list es) [p] := ls_ow upd_same al
      unfold lsish at hk
      split at hk
      · rename_i e; rw [e]; exact ow
      · rename_i e; rw [e]; exact ow
      · cases hk
    · rw [List.getElem?_set_ne (Ne.symm z)] at hj
      obtain ⟨u, hu, w⟩ := r.slots j d hj
      exact ⟨u, hu, ow_mono (Same.refl _) w fun q hq => upd_ne (hoff j q z hq)⟩
  · by_cases z : q = p
    · subst z
      exact ⟨hF, by rw [upd_same]; simp, (r.off j q hq).2.2⟩
    · rw [upd_ne z]; exact r.off j q hq
theorem c_app (i : Nat) (h : DE K c O te m) (hk : lsish (O.getD i .sh) = true := by rfl) : DC K c Ob O (tDrop (tBM K "list" rAppend (tVar i) (tCons te tNil))) (sApp i m) O := ⟨fun {F H σ fps ds} r E p => by
  unfold sApp at p
  split at p
  · rename_i ys hy
    obtain ⟨v, hv, ow⟩ := r.slots i _ hy
    obtain ⟨q0, zs, es, rfl, _, hq0, _, _⟩ := ow_ls hk ow
    refine ⟨_, hv, .inl ⟨rfl, zs, SqL.of hq0⟩, ?_⟩
    cases e : m ds with
    | no => rw [e] at p; exact p.elim
    | ok d s' =>
      rw [e] at p
      dsimp only at p
      split at p
      · rename_i xs hx
        split at p
        · rename_i hz
          refine h.run r e _ fun F1 H1 fps1 w s1 r1 dp => ?_
          obtain ⟨v1, hv1, ow1⟩ := r1.slots i _ hx
          obtain ⟨q1, zs1, es1, rfl, e2, hq1, hfp, al⟩ := ow_ls hk ow1
          cases e2
          have e3 : q1 = q0 := by rw [hv] at hv1; cases hv1; rfl
          subst e3
          refine ⟨_, zs1, w, rfl, rfl, hq1, by rw [dpa_len al]; exact of_decide_eq_true hz, ?_⟩
          exact p F1 _ σ fps1 s1 (r1.mut hk ⟨_, hx⟩ hv hfp (dpa_append al (.cons dp .nil)))
        · exact p.elim
      · exact p.elim
  · exact p.elim⟩
theorem c_put (i : Nat) {ti : TE} {mi : M D} (h : DE K c O te m) (hi : DE K c O ti mi) (hk : lsish (O.getD i .sh) = true := by rfl) : DC K c Ob O (tAsg te (gSub (tVar i) ti rSetL)) (sPut i mi m) O := ⟨fun {F H σ fps ds} r E p => by
  unfold sPut at p
  cases e : m ds with
  | no => rw [e] at p; exact p.elim
  | ok d s' =>
    rw [e] at p
    dsimp only at p
    refine h.run r e _ fun F1 H1 fps1 w s1 r1 dp => ?_
    split at p
    · rename_i ys hy
      obtain ⟨v, hv, ow⟩ := r1.slots i _ hy
      refine ⟨_, hv, ?_⟩
      cases e2 : mi s' with
      | no => rw [e2] at p; exact p.elim
      | ok k s2 =>
        rw [e2] at p
        dsimp only at p
        refine hi.run r1 e2 _ fun F2 H2 fps2 w2 s2 r2 dp2 => ?_
        split at p
        · rename_i kk xs hx
          cases dp2
          split at p
          · rename_i j hj
            obtain ⟨v1, hv1, ow1⟩ := r2.slots i _ hx
            obtain ⟨q1, zs1, es1, rfl, e3, hq1, hfp, al⟩ := ow_ls hk ow1
            cases e3
            have e4 : v = .ref q1 := by rw [hv] at hv1; cases hv1; rfl
            subst e4
            refine ⟨q1, zs1, kk, j, rfl, rfl, hq1, by rw [dpa_len al]; exact hj, ?_⟩
            exact p F2 _ σ fps2 (s1.trans s2) (r2.mut hk ⟨_, hx⟩ hv hfp (dpa_set (dp_mono s2 dp) j al))
          · exact p.elim
        · exact p.elim
    · exact p.elim⟩
/-! ### targets -/
structure DG (K : Fg) (c : Ctx) (O : List Kd) (g : TG) (mg : MG) : Prop where
  run : ∀ {F H : Hp} {σ : St} {fps : Nat → List Addr} {ds ds' : DS} {v : V} {d : D}, Rel K c O F H σ fps ds → Dp K F v d → mg d ds = some ds' → ∀ Q : St → Hp → Prop,
    (∀ σ' fps', Rel K c O F H σ' fps' ds' → Q σ' H) → g v σ H Q
structure DGs (K : Fg) (c : Ctx) (O : List Kd) (g : TGs) (mg : List D → DS → Option DS) : Prop where
  run : ∀ {F H : Hp} {σ : St} {fps : Nat → List Addr} {ds ds' : DS} {vs : List V} {es : List D}, Rel K c O F H σ fps ds → DpAll K F vs es → mg es ds = some ds' → ∀ Q : St → Hp → Prop,
    (∀ σ' fps', Rel K c O F H σ' fps' ds' → Q σ' H) → g vs σ H Q
theorem g_name (i : Nat) (hi : O[i]? = some .sh := by rfl) : DG K c O (gName i) (gN i) := ⟨fun {F H σ fps ds ds' v d} r dp e Q q => by
  cases e
  have hl : i < O.length := (List.getElem?_eq_some_iff.mp hi).1
  have r' := r.put hl (by rw [hi]; rfl) (k := .sh) (v := v) (d := d) (fpv := []) ⟨rfl, dp⟩ (fun q hq => absurd hq (by simp)) (by simp)
  have eO : O.set i .sh = O := by
    apply List.ext_getElem? 
    intro j
    by_cases z : j = i
    · subst z; rw [List.getElem?_set_self hl, hi]
    · rw [List.getElem?_set_ne (Ne.symm z)]
  rw [eO] at r'
  exact q _ _ r'⟩
theorem gs_nil : DGs K c O gNil gE := ⟨fun {F H σ fps ds ds' vs es} r al e Q q => by
  cases al with
  | nil => cases e; exact ⟨rfl, q _ _ r⟩
  | cons _ _ => cases e⟩
theorem gs_cons {g : TG} {gs : TGs} {a : MG} {b : List D → DS → Option DS} (h1 : DG K c O g a) (h2 : DGs K c O gs b) : DGs K c O (gCons g gs) (gC a b) := ⟨fun {F H σ fps ds ds' vs es} r al e Q q => by
  cases al with
  | nil => cases e
  | cons dp al =>
    unfold gC at e
    dsimp only at e
    split at e
    · rename_i s' hs
      exact ⟨_, _, rfl, h1.run r dp hs _ fun σ1 fps1 r1 => h2.run r1 al e Q q⟩
    · cases e⟩
theorem g_tup {n : Nat} {gs : TGs} {b : List D → DS → Option DS} (h : DGs K c O gs b) : DG K c O (gTup K n gs) (gT n b) := ⟨fun {F H σ fps ds ds' v d} r dp e Q q => by
  unfold gT at e
  split at e
  · split at e
    · rename_i hn
      cases dp with
      | tup hq al => exact ⟨_, _, rfl, sqT_mono r.sub hq, by rw [dpa_len al]; exact hn, h.run r al e Q q⟩
    · cases e
  · cases e⟩
theorem g_unl {n : Nat} {gs : TGs} {b : List D → DS → Option DS} (h : DGs K c O gs b) : DG K c O (gUnl K n gs) (gL n b) := ⟨fun {F H σ fps ds ds' v d} r dp e Q q => by
  unfold gL at e
  split at e
  · split at e
    · rename_i hn
      cases dp with
      | lst hq al => exact ⟨_, _, rfl, sqL_mono r.sub hq, by rw [dpa_len al]; exact hn, h.run r al e Q q⟩
    · cases e
  · cases e⟩
theorem c_asg {g : TG} {mg : MG} (h : DE K c O te m) (hg : DG K c O g mg) : DC K c Ob O (tAsg te g) (sAsg m mg) O := ⟨fun {F H σ fps ds} r E p => by
  unfold sAsg at p
  cases e : m ds with
  | no => rw [e] at p; exact p.elim
  | ok d s' =>
    rw [e] at p
    dsimp only at p
    refine h.run r e _ fun F1 H1 fps1 w s1 r1 dp => ?_
    split at p
    · rename_i s2 hs
      exact hg.run r1 dp hs _ fun σ2 fps2 r2 => p F1 H1 σ2 fps2 s1 r2
    · exact p.elim⟩
/-! ### loops -/
def Walks (K : Fg) (F : Hp) (J : It) (xs : List D) : Prop := ∀ F1 H1 i, Same F F1 → Same F1 H1 →
  (∀ d, xs[i]? = some d → J.go i H1 ∧ ∀ x H2, J.yld i H1 x H2 → ∃ F2, Grow F1 H1 F2 H2 ∧ Dp K F2 x d) ∧ (i = xs.length → J.stop i H1)
structure DI (K : Fg) (c : Ctx) (O : List Kd) (w : TI) (m : M (List D)) : Prop where
  run : ∀ {F H : Hp} {σ : St} {fps : Nat → List Addr} {ds ds' : DS} {xs : List D}, Rel K c O F H σ fps ds → m ds = .ok xs ds' → ∀ R : It → Hp → Prop,
    (∀ F' H' fps' J, Same F F' → Rel K c O F' H' σ fps' ds' → Walks K F' J xs → R J H') → w σ H R
theorem c_for {wi : TI} {mi : M (List D)} {g : TG} {mg : MG} {tb : TS} {b : MS} (hi : DI K c O wi mi) (hg : DG K c O g mg) (hb : DC K c O O tb b O) : DC K c Ob O (tFor wi g tb) (sFor mi mg b) O := ⟨fun {F H σ fps ds} r E p => by
  unfold sFor at p
  cases e : mi ds with
  | no => rw [e] at p; exact p.elim
  | ok xs s' =>
    rw [e] at p
    dsimp only at p
    refine hi.run r e _ fun F1 H1 fps1 J s1 r1 wk => ?_
    refine ⟨fun i m σ H => m + i = xs.length ∧ ∃ F' fps' ds', Same F1 F' ∧ Rel K c O F' H σ fps' ds' ∧ Post K c Ob O F' E (loop mg b (xs.drop i) ds'), ⟨xs.length, by omega, F1, fps1, s', Same.refl _, r1, p.mono s1⟩, ?_⟩
    rintro i m σ2 H2 ⟨hm, F2, fps2, ds2, s2, r2, p2⟩
    obtain ⟨w1, w2⟩ := wk F2 H2 i s2 r2.sub
    cases hx : xs[i]? with
    | none =>
      have hl : xs.length ≤ i := List.getElem?_eq_none_iff.mp hx
      have hi' : i = xs.length := by omega
      refine .inl ⟨w2 hi', ?_⟩
      rw [List.drop_of_length_le hl] at p2
      exact p2 F2 H2 σ2 fps2 (Same.refl _) r2
    | some d =>
      obtain ⟨go, yl⟩ := w1 d hx
      have hlt : i < xs.length := (List.getElem?_eq_some_iff.mp hx).1
      have hd : xs.drop i = d :: xs.drop (i + 1) := by
        rw [List.drop_eq_getElem_cons hlt]
        congr 1
        rw [List.getElem?_eq_getElem hlt] at hx
        exact Option.some.inj hx
      rw [hd] at p2
      unfold loop at p2
      refine .inr ⟨go, fun σ' H' => ∃ F' fps' ds', Same F1 F' ∧ Rel K c O F' H' σ' fps' ds' ∧ Post K c Ob O F' E (loop mg b (xs.drop (i + 1)) ds'), fun σ' H' h => ⟨m - 1, by omega, by omega, h⟩, fun x H3 hy => ?_⟩
      obtain ⟨F3, gr, dp⟩ := yl x H3 hy
      obtain ⟨r3, s3⟩ := gr.rel r2
      split at p2
      · rename_i ds3 hg3
        refine hg.run r3 dp hg3 _ fun σ4 fps4 r4 => ?_
        refine hb.run r4 _ ?_
        have s13 : Same F1 F3 := s2.trans s3
        have p3 := p2.mono s3
        cases eb : b ds3 with
        | nx s4 => rw [eb] at p3; exact fun F5 H5 σ5 fps5 s5 r5 => ⟨F5, fps5, s4, s13.trans s5, r5, p3.mono s5⟩
        | ct s4 => rw [eb] at p3; exact fun F5 H5 σ5 fps5 s5 r5 => ⟨F5, fps5, s4, s13.trans s5, r5, p3.mono s5⟩
        | bk s4 => rw [eb] at p3; exact fun F5 H5 σ5 fps5 s5 r5 => p3 F5 H5 σ5 fps5 s5 r5
        | rt d s4 => rw [eb] at p3; exact p3
        | ex x s4 => rw [eb] at p3; exact p3
        | no => rw [eb] at p3; exact p3.elim
      · exact p2.elim⟩
theorem c_while {tc : TT} {mt : M Bool} {tb : TS} {b : MS} (hc : DT K c O tc mt) (hb : DC K c O O tb b O) : DC K c Ob O (tWhile tc tb) (sWhile mt b) O := ⟨fun {F H σ fps ds} r E p => by
  have hx : ∃ n, wl mt b n ds ≠ .no := by
    refine Classical.byContradiction fun z => ?_
    unfold sWhile at p
    rw [dif_neg z] at p
    exact p.elim
  obtain ⟨n, hn⟩ := hx
  rw [sWhile_of n rfl hn] at p
  refine ⟨fun m σ H => ∃ F' fps' ds', Rel K c O F' H σ fps' ds' ∧ Post K c Ob O F' E (wl mt b m ds'), ⟨n, F, fps, ds, r, p⟩, ?_⟩
  rintro m σ2 H2 ⟨F2, fps2, ds2, r2, p2⟩
  cases m with
  | zero => exact p2.elim
  | succ m =>
    unfold wl at p2
    cases e : mt ds2 with
    | no => rw [e] at p2; exact p2.elim
    | ok v s' =>
      rw [e] at p2
      refine hc.run r2 e _ fun F3 H3 fps3 s3 r3 => ?_
      cases v with
      | false => exact iteF (p2 F3 H3 σ2 fps3 s3 r3)
      | true =>
        refine iteT ⟨fun σ' H' => ∃ F' fps' ds', Rel K c O F' H' σ' fps' ds' ∧ Post K c Ob O F' E (wl mt b m ds'), fun σ' H' h => ⟨m, by omega, h⟩, ?_⟩
        dsimp only at p2
        refine hb.run r3 _ ?_
        have p3 := p2.mono s3
        cases eb : b s' with
        | nx s4 => rw [eb] at p3; exact fun F5 H5 σ5 fps5 s5 r5 => ⟨F5, fps5, s4, r5, p3.mono s5⟩
        | ct s4 => rw [eb] at p3; exact fun F5 H5 σ5 fps5 s5 r5 => ⟨F5, fps5, s4, r5, p3.mono s5⟩
        | bk s4 => rw [eb] at p3; exact fun F5 H5 σ5 fps5 s5 r5 => p3 F5 H5 σ5 fps5 s5 r5
        | rt d s4 => rw [eb] at p3; exact p3
        | ex x s4 => rw [eb] at p3; exact p3
        | no => rw [eb] at p3; exact p3.elim⟩
end
end Z
set_option Elab.async false
set_option linter.all false
set_option maxRecDepth 100000
namespace Z
open PySem L2
inductive RF where
  | ok (d : D) (as : List D)
  | ex (x : Xc) (as : List D)
  | no
abbrev FD := List D → RF
def look (s : DS) (i : Nat) : Option D := match s[i]? with
  | some (some d) => some d
  | _ => none
def entry (N : Nat) (args : List D) : DS := args.map some ++ List.replicate (N - args.length) none
def leave (n : Nat) (d : D) (s : DS) : RF := match (List.range n).mapM (look s) with
  | some as => .ok d as
  | none => .no
def leaveX (n : Nat) (x : Xc) (s : DS) : RF := match (List.range n).mapM (look s) with
  | some as => .ex x as
  | none => .no
def fnD (N n : Nat) (rk : Kd) (b : MS) : FD := fun args => if args.length = n then (match b (entry N args) with
  | .rt d s => leave n d s
  | .ex x s => leaveX n x s
  | .nx s => if rk = .sh then leave n .none s else .no
  | _ => .no) else .no
structure ArgR (K : Fg) (ps : List Kd) (F H : Hp) (vs : List V) (fps : Nat → List Addr) (args : List D) : Prop where
  lv : vs.length = ps.length
  la : args.length = ps.length
  sub : Same F H
  ow : ∀ i d, args[i]? = some d → ∃ v, vs[i]? = some v ∧ Ow K F H (ps.getD i .sh) v d (fps i)
  off : ∀ i q, q ∈ fps i → F q = none ∧ H q ≠ none
  nd : ∀ i, (fps i).Nodup
  dj : ∀ i j, i ≠ j → ∀ q, q ∈ fps i → q ∉ fps j
/-- what was handed in for good -/
def Mv (ps : List Kd) (fps : Nat → List Addr) (b : Addr) : Prop := ∃ i, b ∈ fps i ∧ isPm ps[i]? = false
/-- behind a call -/
structure OutB (K : Fg) (ps : List Kd) (F H F' H' : Hp) (vs : List V) (fps fps' : Nat → List Addr) (args' : List D) : Prop where
  ext : Same F F'
  sub : Same F' H'
  keep : ∀ b o, H b = some o → (∀ i, b ∉ fps i) → H' b = some o
  live : ∀ b, H' b = none → H b = none ∨ Mv ps fps b
  new : ∀ b o, F' b = some o → F b = some o ∨ H b = none ∨ Mv ps fps b
  ow : ∀ i k e, ps[i]? = some (.pm k) → args'[i]? = some e → ∃ u, vs[i]? = some u ∧ Ow K F' H' k u e (fps' i)
  off : ∀ i q, isPm ps[i]? = true → q ∈ fps' i → F' q = none ∧ H' q ≠ none ∧ (H q = none ∨ Mv ps fps q ∨ q ∈ fps i)
  nd : ∀ i, (fps' i).Nodup
  dj : ∀ i j, i ≠ j → ∀ q, q ∈ fps' i → q ∉ fps' j
structure OutR (K : Fg) (ps : List Kd) (rk : Kd) (F H F' H' : Hp) (vs : List V) (fps fps' : Nat → List Addr) (args' : List D) (v : V) (d : D) (fpv : List Addr) : Prop extends OutB K ps F H F' H' vs fps fps' args' where
  res : Ow K F' H' rk v d fpv
  roff : ∀ q ∈ fpv, F' q = none ∧ H' q ≠ none ∧ (H q = none ∨ Mv ps fps q) ∧ ∀ i, ps[i]?.isSome = true → q ∉ fps' i
  rnd : fpv.Nodup
theorem OutB.live0 {K : Fg} {ps : List Kd} {F H F' H' : Hp} {vs : List V} {fps fps' : Nat → List Addr} {args' : List D} (o : OutB K ps F H F' H' vs fps fps' args') (hm : ∀ b, ¬ Mv ps fps b) : ∀ b, H' b = none → H b = none := fun b e => (o.live b e).elim id fun z => absurd z (hm b)
theorem OutB.new0 {K : Fg} {ps : List Kd} {F H F' H' : Hp} {vs : List V} {fps fps' : Nat → List Addr} {args' : List D} (o : OutB K ps F H F' H' vs fps fps' args') (hm : ∀ b, ¬ Mv ps fps b) : ∀ b u, F' b = some u → F b = some u ∨ H b = none := fun b u e => (o.new b u e).imp id fun z => z.elim id fun z => absurd z (hm b)
theorem OutR.roff0 {K : Fg} {ps : List Kd} {rk : Kd} {F H F' H' : Hp} {vs : List V} {fps fps' : Nat → List Addr} {args' : List D} {v : V} {d : D} {fpv : List Addr} (o : OutR K ps rk F H F' H' vs fps fps' args' v d fpv) (hm : ∀ b, ¬ Mv ps fps b) : ∀ q ∈ fpv, F' q = none ∧ H' q ≠ none ∧ H q = none ∧ ∀ i, ps[i]?.isSome = true → q ∉ fps' i := fun q hq => by
  obtain ⟨h1, h2, h3, h4⟩ := o.roff q hq
  exact ⟨h1, h2, h3.elim id fun z => absurd z (hm q), h4⟩
theorem mv_nil {ps : List Kd} (b : Addr) : ¬ Mv ps (fun _ => []) b := fun ⟨_, h, _⟩ => by cases h
theorem mv_one {ps : List Kd} {k : Kd} {fp : List Addr} (b : Addr) : ¬ Mv (.pm k :: ps) (fun i => if i = 0 then fp else []) b := fun ⟨i, h, e⟩ => by
  by_cases z : i = 0
  · subst z; cases e
  · simp only [if_neg z] at h; cases h
def spD (K : Fg) (mg : Str → Option Value) (f : FD) (ps : List Kd) (rk : Kd) : Sp := fun vs H Q E => ∃ (F : Hp) (fps : Nat → List Addr) (args : List D), ArgR K ps F H vs fps args ∧ match f args with
  | .ok d args' => ∀ F' H' fps' v fpv, OutR K ps rk F H F' H' vs fps fps' args' v d fpv → Q v H'
  | .ex x args' => ∀ F' H' fps' cls dd, OutB K ps F H F' H' vs fps fps' args' → ExOk K mg F' x cls dd → E cls dd H'
  | .no => False
theorem spD_ok {K : Fg} {mg : Str → Option Value} {f : FD} {ps : List Kd} {rk : Kd} {vs : List V} {H : Hp} {Q : VK} {E : XK} {F : Hp} {fps : Nat → List Addr} {args args' : List D} {d : D} (A : ArgR K ps F H vs fps args) (e : f args = .ok d args')
    (q : ∀ F' H' fps' v fpv, OutR K ps rk F H F' H' vs fps fps' args' v d fpv → Q v H') : spD K mg f ps rk vs H Q E := ⟨F, fps, args, A, by rw [e]; exact q⟩
theorem spD_ex {K : Fg} {mg : Str → Option Value} {f : FD} {ps : List Kd} {rk : Kd} {vs : List V} {H : Hp} {Q : VK} {E : XK} {F : Hp} {fps : Nat → List Addr} {args args' : List D} {x : Xc} (A : ArgR K ps F H vs fps args) (e : f args = .ex x args')
    (q : ∀ F' H' fps' cls dd, OutB K ps F H F' H' vs fps fps' args' → ExOk K mg F' x cls dd → E cls dd H') : spD K mg f ps rk vs H Q E := ⟨F, fps, args, A, by rw [e]; exact q⟩
theorem mapM_get {s : DS} : ∀ {l : List Nat} {as : List D} {i : Nat} {d : D}, l.mapM (look s) = some as → as[i]? = some d → ∃ j, l[i]? = some j ∧ look s j = some d
  | [], as, i, d, h, e => by cases h; simp at e
  | j :: l, as, i, d, h, e => by
    rw [List.mapM_cons] at h
    cases e1 : look s j with
    | none => rw [e1] at h; cases h
    | some x =>
      cases e2 : l.mapM (look s) with
      | none => rw [e1, e2] at h; cases h
      | some xs =>
        rw [e1, e2] at h
        cases h
        cases i with
        | zero => cases e; exact ⟨j, rfl, e1⟩
        | succ i => exact mapM_get (l := l) e2 (by simpa using e)
theorem look_some {s : DS} {i : Nat} {d : D} (h : look s i = some d) : s[i]? = some (some d) := by
  unfold look at h
  split at h
  · rename_i e; cases h; exact e
  · cases h
def pkOf (ps : List Kd) (i : Nat) : Option Kd := match ps[i]? with
  | some (.pm k) => some k
  | _ => none
theorem pkOf_some {ps : List Kd} {i : Nat} {k : Kd} (h : pkOf ps i = some k) : ps[i]? = some (.pm k) := by
  unfold pkOf at h
  split at h
  · rename_i e; cases h; exact e
  · cases h
theorem pkOf_of {ps : List Kd} {i : Nat} {k : Kd} (h : ps[i]? = some (.pm k)) : pkOf ps i = some k := by unfold pkOf; rw [h]
section
variable {K : Fg} {mg : Str → Option Value} {ps : List Kd} {rk : Kd}
/-- a def's body keeps its meaning -/
theorem body_ok {t : TS} {b : MS} {N : List Str} {O0 O1 : List Kd} {vs : List V} {H : Hp} {Q : VK} (hO : O0 = ps ++ List.replicate (N.length - ps.length) .sh)
    (E : XK) (h : ∀ c : Ctx, c.ps = (ps, []) → c.rk = rk → c.mg = mg → c.Ox = none → (c.W = fun cls d _ H => E cls d H) → DC K c [] O0 t b O1) (sp : spD K mg (fnD N.length ps.length rk b) ps rk vs H Q E) (hN : ps.length ≤ N.length) : t { nx := fun _ H' => Q .non H', rt := Q } (L2.start N vs) H := by
  obtain ⟨F, fps, args, A, q⟩ := sp
  let c : Ctx := { F0 := F, H0 := fun b => open Classical in if Mv ps fps b then none else H b, ow := fun i q => q ∈ fps i ∧ isPm ps[i]? = true, ps := (ps, []), pk := pkOf ps, rk := rk, arg := fun i => vs.getD i .non, mg := mg, W := fun cls d _ H => E cls d H, Ox := none }
  have hO0 : ∀ i, i < ps.length → O0[i]? = ps[i]? := fun i hi => by rw [hO, List.getElem?_append_left hi]
  have hpl : ∀ i, isPm ps[i]? = true → i < ps.length := fun i hi => by
    cases Nat.lt_or_ge i ps.length with
    | inl h => exact h
    | inr h => rw [List.getElem?_eq_none h] at hi; cases hi
  have hst : ∀ i v, vs[i]? = some v → (L2.start N vs)[i]? = some (some v) := fun i v hv => by
    unfold L2.start
    have hi : i < vs.length := (List.getElem?_eq_some_iff.mp hv).1
    rw [List.getElem?_append_left (by simpa using hi), List.getElem?_map, hv]
    rfl
  have hS : ∀ b o, c.H0 b = some o → H b = some o := fun b o e => by
    have e' : (open Classical in if Mv ps fps b then none else H b) = some o := e
    split at e'
    · cases e'
    · exact e'
  have hN0 : ∀ b, H b = none → c.H0 b = none := fun b e => by
    show (open Classical in if Mv ps fps b then none else H b) = none
    split
    · rfl
    · exact e
  have hN1 : ∀ b, c.H0 b = none → H b = none ∨ Mv ps fps b := fun b e => by
    have e' : (open Classical in if Mv ps fps b then none else H b) = none := e
    split at e'
    · rename_i z; exact .inr z
    · exact .inl e'
  have hr : Rel K c O0 F H (L2.start N vs) fps (entry N.length args) := by
    refine ⟨A.sub, Same.refl _, fun b o e _ => hS b o e, fun b e => hN0 b e, fun b o e => .inl e, fun i d' hd => ?_, fun i q hq => ?_, A.nd, A.dj, fun i k hk => ?_, ?_⟩
    · have hi : args[i]? = some d' := by
        unfold entry at hd
        by_cases hi : i < args.length
        · rw [List.getElem?_append_left (by simpa using hi), List.getElem?_map] at hd
          cases z : args[i]? with
          | none => rw [z] at hd; cases hd
          | some x => rw [z] at hd; cases hd; rfl
        · rw [List.getElem?_append_right (by simpa using hi), List.getElem?_replicate] at hd
          split at hd <;> cases hd
      obtain ⟨v, hv, ow⟩ := A.ow i d' hi
      refine ⟨v, hst i v hv, ?_⟩
      have hl : i < ps.length := by rw [← A.la]; exact (List.getElem?_eq_some_iff.mp hi).1
      rw [List.getD_eq_getElem?_getD, hO0 i hl, ← List.getD_eq_getElem?_getD]
      exact ow
    · obtain ⟨h1, h2⟩ := A.off i q hq
      refine ⟨h1, h2, ?_⟩
      cases h3 : isPm ps[i]? with
      | true => exact .inr ⟨⟨hq, h3⟩, by rw [hO0 i (hpl i h3)]; exact h3⟩
      | false => exact .inl (show (open Classical in if Mv ps fps q then none else H q) = none from if_pos ⟨i, hq, h3⟩)
    · have hk := pkOf_some hk
      have hl : i < ps.length := (List.getElem?_eq_some_iff.mp hk).1
      refine ⟨by rw [hO0 i hl]; exact hk, ?_⟩
      have hv : i < vs.length := by rw [A.lv]; exact hl
      have e1 : vs[i]? = some (vs.getD i .non) := by rw [List.getD_eq_getElem?_getD, List.getElem?_eq_getElem hv]; rfl
      exact hst i _ e1
    · unfold L2.start entry
      rw [List.length_append, List.length_append, List.length_map, List.length_map, List.length_replicate, List.length_replicate, A.lv, A.la]
  refine (h c rfl rfl rfl rfl rfl).run hr _ ?_
  unfold fnD at q
  rw [if_pos A.la] at q
  have outB : ∀ {s : DS} {F' H' : Hp} {σ' : St} {fps' : Nat → List Addr} {O'' : List Kd} {as : List D}, (List.range ps.length).mapM (look s) = some as → Rel K c O'' F' H' σ' fps' s → OutB K ps F H F' H' vs fps fps' as := fun {s F' H' σ' fps' O'' as} has r' => by
      refine ⟨r'.base, r'.sub, fun b o hb hn => r'.keep b o (by show (open Classical in if Mv ps fps b then none else H b) = some o; rw [if_neg fun ⟨i, hi, _⟩ => hn i hi]; exact hb) (fun ⟨i, hi, _⟩ => hn i hi), fun b e => hN1 b (r'.live b e), fun b o e => (r'.new b o e).imp id (hN1 b), fun i k e he hae => ?_, fun i q' hi hq => ?_, r'.nd, r'.dj⟩
      · obtain ⟨j, hj, lk⟩ := mapM_get has hae
        have hij : j = i := by
          rw [List.getElem?_range] at hj
          · cases hj; rfl
          · exact (List.getElem?_eq_some_iff.mp he).1
        subst hij
        obtain ⟨u, hu, w⟩ := r'.slots j e (look_some lk)
        obtain ⟨p1, p2⟩ := r'.par j k (pkOf_of he)
        rw [p2] at hu
        cases hu
        have hv : j < vs.length := by rw [A.lv]; exact (List.getElem?_eq_some_iff.mp he).1
        have ev : vs[j]? = some (vs.getD j .non) := by rw [List.getD_eq_getElem?_getD, List.getElem?_eq_getElem hv]; rfl
        refine ⟨_, ev, ?_⟩
        rw [List.getD_eq_getElem?_getD, p1] at w
        exact w
      · obtain ⟨h1, h2, h3⟩ := r'.off i q' hq
        refine ⟨h1, h2, ?_⟩
        rcases h3 with h3 | ⟨⟨hj, _⟩, _⟩
        · exact (hN1 q' h3).imp id .inl
        · exact .inr (.inr hj)
  cases eb : b (entry N.length args) with
  | rt d' s =>
    rw [eb] at q
    dsimp only [leave] at q
    cases has : (List.range ps.length).mapM (look s) with
    | none => simp only [has] at q
    | some as =>
      simp only [has] at q
      exact fun F' H' σ' fps' O'' v fpv s' r' ow hf nd => q F' H' fps' v fpv ⟨outB has r', ow, fun q hq => ⟨(hf q hq).1, (hf q hq).2.1, hN1 q (hf q hq).2.2.1, fun i hi => (hf q hq).2.2.2 i (.inl hi)⟩, nd⟩
  | ex x s =>
    rw [eb] at q
    dsimp only [leaveX] at q
    cases has : (List.range ps.length).mapM (look s) with
    | none => simp only [has] at q
    | some as =>
      simp only [has] at q
      exact fun F' H' σ' fps' O'' cls dd _ s' r' xo => q F' H' fps' cls dd (outB has r') xo
  | nx s =>
    rw [eb] at q
    dsimp only at q
    by_cases hk : rk = .sh
    · rw [if_pos hk] at q
      unfold leave at q
      cases has : (List.range ps.length).mapM (look s) with
      | none => simp only [has] at q
      | some as =>
        simp only [has] at q
        exact fun F' H' σ' fps' s' r' => q F' H' fps' _ [] ⟨outB has r', by rw [hk]; exact ⟨rfl, .non⟩, fun q hq => absurd hq (by simp), by simp⟩
    · rw [if_neg hk] at q; exact q.elim
  | bk s => rw [eb] at q; exact q.elim
  | ct s => rw [eb] at q; exact q.elim
  | no => rw [eb] at q; exact q.elim
theorem spD_len {f : FD} {vs : List V} {H : Hp} {Q : VK} {E : XK} (h : spD K mg f ps rk vs H Q E) : vs.length = ps.length := by
  obtain ⟨_, _, _, A, _⟩ := h
  exact A.lv
/-! ### calls -/
section
variable {c : Ctx} {O : List Kd} {F H F' H' : Hp} {σ : St} {fps fps' gps gps' : Nat → List Addr} {ds : DS} {args' : List D} {vs : List V} {v : V} {d : D} {fpv : List Addr}
/-- behind a call that changes nothing of one's own -/
theorem Rel.call0 (r : Rel K c O F H σ fps ds) (o : OutB K ps F H F' H' vs (fun _ => []) gps' args') : Rel K c O F' H' σ fps ds := by
  have hk : ∀ b u, H b = some u → H' b = some u := fun b u e => o.keep b u e (fun _ => by simp)
  have hF : ∀ q, F q = none → H q ≠ none → F' q = none := fun q h1 h2 => by
    cases z : F' q with
    | none => rfl
    | some u =>
      rcases o.new0 mv_nil q u z with h | h
      · rw [h1] at h; cases h
      · exact absurd h h2
  refine ⟨o.sub, r.base.trans o.ext, fun b u e n => hk b u (r.keep b u e n), fun b e => r.live b (o.live0 mv_nil b e), fun b u e => ?_, fun i e he => ?_, fun i q hq => ?_, r.nd, r.dj, r.par, r.len⟩
  · rcases o.new0 mv_nil b u e with h | h
    · exact r.new b u h
    · exact .inr (r.live b h)
  · obtain ⟨w, hw, ow⟩ := r.slots i e he
    refine ⟨w, hw, ow_mono o.ext ow fun q hq => ?_⟩
    cases z : H q with
    | none => exact absurd z (r.off i q hq).2.1
    | some u => exact hk q u z
  · obtain ⟨h1, h2, h3⟩ := r.off i q hq
    refine ⟨hF q h1 h2, fun z => h2 (o.live0 mv_nil q z), h3⟩
/-- behind a call that may change the thing in slot j -/
theorem Rel.call1 (r : Rel K c O F H σ fps ds) {j : Nat} {k : Kd} {w : V} {e e' : D} (o : OutB K (.pm k :: ps) F H F' H' (w :: vs) (fun i => if i = 0 then fps j else []) gps' (e' :: args'))
    (hj : ds[j]? = some (some e)) (hw : σ[j]? = some (some w)) (hk : O.getD j .sh = k ∨ O.getD j .sh = .pm k) : Rel K c O F' H' σ (fun i => if i = j then gps' 0 else fps i) (ds.set j (some e')) := by
  have hkp : ∀ b u, H b = some u → b ∉ fps j → H' b = some u := fun b u e hn => o.keep b u e (fun i => by
    by_cases z : i = 0
    · simp only [z, if_pos]; exact hn
    · simp only [if_neg z]; simp)
  have hF : ∀ q, F q = none → H q ≠ none → F' q = none := fun q h1 h2 => by
    cases z : F' q with
    | none => rfl
    | some u =>
      rcases o.new0 mv_one q u z with h | h
      · rw [h1] at h; cases h
      · exact absurd h h2
  have hl : j < ds.length := (List.getElem?_eq_some_iff.mp hj).1
  have hg : ∀ q, q ∈ gps' 0 → F' q = none ∧ H' q ≠ none ∧ (H q = none ∨ q ∈ fps j) := fun q hq => by
    obtain ⟨h1, h2, h3⟩ := o.off 0 q rfl hq
    refine ⟨h1, h2, ?_⟩
    rcases h3 with h3 | h3 | h3
    · exact .inl h3
    · exact absurd h3 (mv_one q)
    · simp only [if_pos] at h3; exact .inr h3
  have hdj : ∀ i, i ≠ j → ∀ q, q ∈ gps' 0 → q ∉ fps i := fun i hi q hq hq' => by
    rcases (hg q hq).2.2 with h | h
    · exact (r.off i q hq').2.1 h
    · exact r.dj j i (Ne.symm hi) q h hq'
  refine ⟨o.sub, r.base.trans o.ext, fun b u e n => ?_, fun b e => r.live b (o.live0 mv_one b e), fun b u e => ?_, fun i x hx => ?_, fun i q hq => ?_, fun i => ?_, fun i l hil q hq hq' => ?_, r.par, by rw [List.length_set]; exact r.len⟩
  · refine hkp b u (r.keep b u e n) fun hb => ?_
    rcases (r.off j b hb).2.2 with h | ⟨h, _⟩
    · rw [h] at e; cases e
    · exact n ⟨_, h⟩
  · rcases o.new0 mv_one b u e with h | h
    · exact r.new b u h
    · exact .inr (r.live b h)
  · by_cases z : i = j
    · subst z
      rw [List.getElem?_set_self hl] at hx
      cases hx
      obtain ⟨u, hu, ow⟩ := o.ow 0 k e' rfl rfl
      cases hu
      refine ⟨w, hw, ?_⟩
      simp only [if_pos]
      rcases hk with h | h
      · rw [h]; exact ow
      · rw [h]; exact ow
    · rw [List.getElem?_set_ne (Ne.symm z)] at hx
      obtain ⟨u, hu, ow⟩ := r.slots i x hx
      refine ⟨u, hu, ?_⟩
      simp only [if_neg z]
      refine ow_mono o.ext ow fun q hq => ?_
      cases y : H q with
      | none => exact absurd y (r.off i q hq).2.1
      | some u => exact hkp q u y fun hb => r.dj i j z q hq hb
  · by_cases z : i = j
    · subst z
      simp only [if_pos] at hq
      obtain ⟨h1, h2, h3⟩ := hg q hq
      refine ⟨h1, h2, ?_⟩
      rcases h3 with h3 | h3
      · exact .inl (r.live q h3)
      · exact (r.off i q h3).2.2
    · simp only [if_neg z] at hq
      obtain ⟨h1, h2, h3⟩ := r.off i q hq
      exact ⟨hF q h1 h2, fun y => h2 (o.live0 mv_one q y), h3⟩
  · by_cases z : i = j
    · simp only [z, if_pos]; exact o.nd 0
    · simp only [if_neg z]; exact r.nd i
  · by_cases z : i = j
    · by_cases z' : l = j
      · exact hil (z.trans z'.symm)
      · simp only [z, if_pos] at hq
        simp only [if_neg z'] at hq'
        exact hdj l z' q hq hq'
    · simp only [if_neg z] at hq
      by_cases z' : l = j
      · simp only [z', if_pos] at hq'
        exact hdj i z q hq' hq
      · simp only [if_neg z'] at hq'
        exact r.dj i l hil q hq hq'
theorem args_sh {es : List D} (hs : ps.all (· == .sh) = true) (sF : Same F H) (al : DpAll K F vs es) (hl : es.length = ps.length) : ArgR K ps F H vs (fun _ => []) es := by
  refine ⟨(dpa_len al).trans hl, hl, sF, fun i d' hd => ?_, fun i q hq => absurd hq (by simp), fun _ => by simp, fun _ _ _ _ hq => absurd hq (by simp)⟩
  obtain ⟨u, hu, dp⟩ := dpa_get al hd
  have : ps.getD i .sh = .sh := by
    rw [List.getD_eq_getElem?_getD]
    cases z : ps[i]? with
    | none => rfl
    | some k =>
      have := List.all_eq_true.mp hs k (List.mem_of_getElem? z)
      simpa using this
  exact ⟨u, hu, by rw [this]; exact ⟨rfl, dp⟩⟩
theorem args_o {es : List D} {k : Kd} {w : V} {e : D} {fp : List Addr} (hs : ps.all (· == .sh) = true) (sF : Same F H) (al : DpAll K F vs es) (hl : es.length = ps.length) (ow : Ow K F H k w e fp) (hf : ∀ q ∈ fp, F q = none ∧ H q ≠ none) (nd : fp.Nodup) :
    ArgR K (.pm k :: ps) F H (w :: vs) (fun i => if i = 0 then fp else []) (e :: es) := by
  have A := args_sh hs sF al hl
  refine ⟨by simp only [List.length_cons, A.lv], by simp only [List.length_cons, hl], sF, fun i d' hd => ?_, fun i q hq => ?_, fun i => ?_, fun i j hij q hq hq' => ?_⟩
  · cases i with
    | zero => cases hd; exact ⟨w, rfl, ow⟩
    | succ i =>
      obtain ⟨u, hu, o⟩ := A.ow i d' (by simpa using hd)
      exact ⟨u, by simpa using hu, by simpa using o⟩
  · by_cases z : i = 0
    · subst z
      simp only [if_pos] at hq
      exact hf q hq
    · simp only [if_neg z] at hq
      exact absurd hq (by simp)
  · by_cases z : i = 0
    · simp only [z, if_pos]; exact nd
    · simp only [if_neg z]; simp
  · by_cases z : i = 0
    · by_cases z' : j = 0
      · exact hij (z.trans z'.symm)
      · simp only [if_neg z'] at hq'
        exact absurd hq' (by simp)
    · simp only [if_neg z] at hq
      exact absurd hq (by simp)
end
def mCall (f : FD) (n : Nat) (ml : M (List D)) : M D := bnd ml fun xs => fun s => if xs.length = n then (match f xs with
  | .ok d _ => .ok d s
  | _ => .no) else .no
def mCall1 (f : FD) (n j : Nat) (ml : M (List D)) : M D := fun s => match s[j]? with
  | some (some _) => bnd ml (fun xs => fun s' => match s'[j]? with
    | some (some e) => if xs.length = n then (match f (e :: xs) with
      | .ok d (e' :: _) => .ok d (s'.set j (some e'))
      | _ => .no) else .no
    | _ => .no) s
  | _ => .no
def mCallT (f : FD) (n : Nat) (m0 : M D) (ml : M (List D)) : M D := bnd m0 fun e => bnd ml fun xs => fun s => if xs.length = n then (match f (e :: xs) with
  | .ok d (_ :: _) => .ok d s
  | _ => .no) else .no
section
variable {c : Ctx} {O : List Kd} {tl : TA} {ml : M (List D)} {f : FD} {E : XK} {te : TE} {m : M D}
theorem o_call (h : DA K c O tl ml) (hs : ps.all (· == .sh) = true := by rfl) : DO K c O rk (tCall (spD K mg f ps rk) [] E tl) (mCall f ps.length ml) := ⟨fun {F H σ fps ds ds' d} r e Q q => by
  obtain ⟨xs, s1, e1, g1⟩ := bnd_ok e
  split at g1
  · rename_i hl
    split at g1
    · rename_i d0 as hf
      cases g1
      refine h.run r e1 _ fun F1 H1 fps1 vs sF r1 al => ?_
      rw [List.append_nil]
      refine spD_ok (args_sh hs r1.sub al hl) hf fun F' H' fps' v fpv o => ?_
      refine q F' H' fps1 v fpv (sF.trans o.ext) (r1.call0 o.toOutB) o.res (fun q hq => ?_) o.rnd
      obtain ⟨h1, h2, h3, h4⟩ := o.roff0 mv_nil q hq
      exact ⟨h1, h2, r1.live q h3, fun i hi => (r1.off i q hi).2.1 h3⟩
    · cases g1
  · cases g1⟩
theorem o_call1 (j : Nat) {k : Kd} (h : DA K c O tl ml) (hk : O.getD j .sh = k ∨ O.getD j .sh = .pm k) (hs : ps.all (· == .sh) = true := by rfl) : DO K c O rk (tCall (spD K mg f (.pm k :: ps) rk) [] E (tCons (tVar j) tl)) (mCall1 f ps.length j ml) := ⟨fun {F H σ fps ds ds' d} r e Q q => by
  unfold mCall1 at e
  split at e
  · rename_i e0 he0
    obtain ⟨xs, s1, e1, g1⟩ := bnd_ok e
    obtain ⟨w, hw, _⟩ := r.slots j _ he0
    refine ⟨w, hw, ?_⟩
    split at g1
    · rename_i e2 he2
      split at g1
      · rename_i hl
        split at g1
        · rename_i d0 e' as hf
          cases g1
          refine h.run r e1 _ fun F1 H1 fps1 vs sF r1 al => ?_
          show spD K mg f (k.pm :: ps) rk ((w :: vs) ++ []) H1 Q E
          rw [List.append_nil]
          obtain ⟨w1, hw1, ow⟩ := r1.slots j _ he2
          rw [hw] at hw1
          cases hw1
          have ow' : Ow K F1 H1 k w e2 (fps1 j) := by
            rcases hk with h | h
            · rw [h] at ow; exact ow
            · rw [h] at ow; exact ow
          refine spD_ok (args_o hs r1.sub al hl ow' (fun q hq => ⟨(r1.off j q hq).1, (r1.off j q hq).2.1⟩) (r1.nd j)) hf fun F' H' fps' v fpv o => ?_
          refine q F' H' _ v fpv (sF.trans o.ext) (r1.call1 o.toOutB he2 hw hk) o.res (fun q hq => ?_) o.rnd
          obtain ⟨h1, h2, h3, h4⟩ := o.roff0 mv_one q hq
          refine ⟨h1, h2, r1.live q h3, fun i hi => ?_⟩
          by_cases z : i = j
          · simp only [z, if_pos] at hi
            exact h4 0 rfl hi
          · simp only [if_neg z] at hi
            exact (r1.off i q hi).2.1 h3
        · cases g1
      · cases g1
    · cases g1
  · cases e⟩
/-- what was made for one's own is read alone -/
theorem DO.e (h : DO K c O (.ls .sh) te m) : DE K c O te m := ⟨fun {F H σ fps ds ds' d} r e Q q => by
  refine h.run r e _ fun F1 H1 fps1 v fpv sF r1 ow hf nd => ?_
  obtain ⟨p, xs, es, rfl, rfl, hp, rfl, al⟩ := ow_ls rfl ow
  obtain ⟨h1, h2, h3, h4⟩ := hf p (by simp)
  have s2 : Same F1 (upd F1 p (.lst xs)) := same_upd h1
  refine q (upd F1 p (.lst xs)) H1 fps1 _ (sF.trans s2) ⟨fun b o e => ?_, r1.base.trans s2, r1.keep, r1.live, fun b o e => ?_, fun i d hd => ?_, fun i q hq => ?_, r1.nd, r1.dj, r1.par, r1.len⟩ (frz_sh hp al h1)
  · by_cases hb : b = p
    · subst hb; rw [upd_same] at e; rw [hp]; exact e
    · rw [upd_ne hb] at e; exact r1.sub b o e
  · by_cases hb : b = p
    · subst hb; exact .inr h3
    · rw [upd_ne hb] at e; exact r1.new b o e
  · obtain ⟨u, hu, w⟩ := r1.slots i d hd
    exact ⟨u, hu, ow_mono s2 w fun _ _ => rfl⟩
  · have hb : q ≠ p := fun z => by subst z; exact h4 i hq
    rw [upd_ne hb]
    exact r1.off i q hq⟩
theorem DO.sh (h : DO K c O .sh te m) : DE K c O te m := ⟨fun {F H σ fps ds ds' d} r e Q q => h.run r e _ fun F1 H1 fps1 v fpv sF r1 ow hf nd => q F1 H1 fps1 v sF r1 ow.2⟩
/-- the same, seen from here on: all that is no slot's own stays -/
noncomputable def Ctx.from (c : Ctx) (O : List Kd) (F H : Hp) (fps : Nat → List Addr) : Ctx where
  F0 := F
  H0 := fun b => open Classical in if ∃ i, b ∈ fps i ∧ isPm O[i]? = false then none else H b
  ow := fun i b => b ∈ fps i ∧ isPm O[i]? = true
  ps := c.ps
  pk := c.pk
  rk := c.rk
  arg := c.arg
  mg := c.mg
  W := c.W
  Ox := c.Ox
section
variable {F1 H1 F2 H2 : Hp} {σ : St} {fps1 fps2 : Nat → List Addr} {ds1 ds2 : DS}
theorem from_none {b : Addr} (h : (c.from O F1 H1 fps1).H0 b = none) : (∃ i, b ∈ fps1 i ∧ isPm O[i]? = false) ∨ H1 b = none := by
  by_cases z : ∃ i, b ∈ fps1 i ∧ isPm O[i]? = false
  · exact .inl z
  · right
    have : (c.from O F1 H1 fps1).H0 b = H1 b := if_neg z
    rw [← this]; exact h
theorem from_some {b : Addr} (h : ¬ ∃ i, b ∈ fps1 i ∧ isPm O[i]? = false) : (c.from O F1 H1 fps1).H0 b = H1 b := if_neg h
theorem Rel.focus (r : Rel K c O F1 H1 σ fps1 ds1) : Rel K (c.from O F1 H1 fps1) O F1 H1 σ fps1 ds1 := by
  refine ⟨r.sub, Same.refl _, fun b o e _ => ?_, fun b e => ?_, fun b o e => .inl e, r.slots, fun i q hq => ?_, r.nd, r.dj, r.par, r.len⟩
  · by_cases z : ∃ i, b ∈ fps1 i ∧ isPm O[i]? = false
    · have : (c.from O F1 H1 fps1).H0 b = none := if_pos z
      rw [this] at e; cases e
    · rw [from_some z] at e; exact e
  · by_cases z : ∃ i, b ∈ fps1 i ∧ isPm O[i]? = false
    · exact if_pos z
    · rw [from_some z]; exact e
  · obtain ⟨h1, h2, _⟩ := r.off i q hq
    refine ⟨h1, h2, ?_⟩
    cases z : isPm O[i]? with
    | true => exact .inr ⟨⟨hq, z⟩, rfl⟩
    | false => exact .inl (if_pos ⟨i, hq, z⟩)
theorem Rel.unfocus (r : Rel K c O F1 H1 σ fps1 ds1) (r2 : Rel K (c.from O F1 H1 fps1) O F2 H2 σ fps2 ds2) : Rel K c O F2 H2 σ fps2 ds2 := by
  have hn : ∀ b, (c.from O F1 H1 fps1).H0 b = none → c.H0 b = none := fun b h => by
    rcases from_none h with ⟨i, hi, hp⟩ | h
    · rcases (r.off i b hi).2.2 with h | ⟨_, h⟩
      · exact h
      · rw [hp] at h; cases h
    · exact r.live b h
  refine ⟨r2.sub, r.base.trans r2.base, fun b o e n => ?_, fun b e => hn b (r2.live b e), fun b o e => ?_, r2.slots, fun i q hq => ?_, r2.nd, r2.dj, r.par, r2.len⟩
  · have hb : ∀ i, b ∉ fps1 i := fun i hi => by
      rcases (r.off i b hi).2.2 with h | ⟨h, _⟩
      · rw [h] at e; cases e
      · exact n ⟨_, h⟩
    refine r2.keep b o ?_ (fun ⟨i, hi, _⟩ => hb i hi)
    rw [from_some (fun ⟨i, hi, _⟩ => hb i hi)]
    exact r.keep b o e n
  · rcases r2.new b o e with h | h
    · exact r.new b o h
    · exact .inr (hn b h)
  · obtain ⟨h1, h2, h3⟩ := r2.off i q hq
    refine ⟨h1, h2, ?_⟩
    rcases h3 with h3 | ⟨⟨hj, _⟩, h3⟩
    · exact .inl (hn q h3)
    · exact (r.off i q hj).2.2
end
/-- f(new, ..): what is made for the call alone -/
theorem o_callT {k : Kd} (h0 : DO K c O k te m) (h : ∀ c' : Ctx, DA K c' O tl ml) (hs : ps.all (· == .sh) = true := by rfl) : DO K c O rk (tCall (spD K mg f (.pm k :: ps) rk) [] E (tCons te tl)) (mCallT f ps.length m ml) := ⟨fun {F H σ fps ds ds' d} r e Q q => by
  obtain ⟨e0, s0, e1, g0⟩ := bnd_ok e
  obtain ⟨xs, s1, e2, g1⟩ := bnd_ok g0
  refine h0.run r e1 _ fun F1 H1 fps1 w fpw sF r1 ow hf nd => ?_
  split at g1
  · rename_i hl
    split at g1
    · rename_i d0 e' as hff
      cases g1
      refine (h (c.from O F1 H1 fps1)).run r1.focus e2 _ fun F2 H2 fps2 vs sF2 r2' al => ?_
      have r2 := r1.unfocus r2'
      show spD K mg f (k.pm :: ps) rk ((w :: vs) ++ []) H2 Q E
      rw [List.append_nil]
      have hH : ∀ q ∈ fpw, (c.from O F1 H1 fps1).H0 q = H1 q := fun q hq => from_some fun ⟨i, hi, _⟩ => (hf q hq).2.2.2 i hi
      have hs2 : ∀ q ∈ fpw, H2 q = H1 q := fun q hq => by
        cases z : H1 q with
        | none => exact absurd z (hf q hq).2.1
        | some o => exact r2'.keep q o (by rw [hH q hq]; exact z) fun ⟨i, hi, _⟩ => (hf q hq).2.2.2 i hi
      have hF2 : ∀ q ∈ fpw, F2 q = none := fun q hq => by
        cases z : F2 q with
        | none => rfl
        | some o =>
          rcases r2'.new q o z with h | h
          · have h' : F1 q = some o := h
            rw [(hf q hq).1] at h'; cases h'
          · rw [hH q hq] at h; exact absurd h (hf q hq).2.1
      have hd2 : ∀ q ∈ fpw, ∀ i, q ∉ fps2 i := fun q hq i hi => by
        rcases (r2'.off i q hi).2.2 with h | ⟨⟨hj, _⟩, _⟩
        · rw [hH q hq] at h; exact (hf q hq).2.1 h
        · exact (hf q hq).2.2.2 i hj
      have ow2 : Ow K F2 H2 k w e0 fpw := ow_mono sF2 ow hs2
      refine spD_ok (args_o hs r2.sub al hl ow2 (fun q hq => ⟨hF2 q hq, by rw [hs2 q hq]; exact (hf q hq).2.1⟩) nd) hff fun F' H' fps' v fpv o => ?_
      have hkp : ∀ b u, H2 b = some u → b ∉ fpw → H' b = some u := fun b u e hn => o.keep b u e (fun i => by
        by_cases z : i = 0
        · simp only [z, if_pos]; exact hn
        · simp only [if_neg z]; simp)
      have r3 : Rel K c O F' H' σ fps2 ds' := by
        refine ⟨o.sub, r2.base.trans o.ext, fun b u e n => ?_, fun b e => r2.live b (o.live0 mv_one b e), fun b u e => ?_, fun i x hx => ?_, fun i q hq => ?_, r2.nd, r2.dj, r2.par, r2.len⟩
        · refine hkp b u (r2.keep b u e n) fun hb => ?_
          rw [(hf b hb).2.2.1] at e; cases e
        · rcases o.new0 mv_one b u e with h | h
          · exact r2.new b u h
          · exact .inr (r2.live b h)
        · obtain ⟨u, hu, ow⟩ := r2.slots i x hx
          refine ⟨u, hu, ow_mono o.ext ow fun q hq => ?_⟩
          cases y : H2 q with
          | none => exact absurd y (r2.off i q hq).2.1
          | some u => exact hkp q u y fun hb => hd2 q hb i hq
        · obtain ⟨h1, h2, h3⟩ := r2.off i q hq
          refine ⟨?_, fun y => h2 (o.live0 mv_one q y), h3⟩
          cases z : F' q with
          | none => rfl
          | some u =>
            rcases o.new0 mv_one q u z with h | h
            · rw [h1] at h; cases h
            · exact absurd h h2
      refine q F' H' fps2 v fpv ((sF.trans sF2).trans o.ext) r3 o.res (fun q hq => ?_) o.rnd
      obtain ⟨h1, h2, h3, h4⟩ := o.roff0 mv_one q hq
      exact ⟨h1, h2, r2.live q h3, fun i hi => (r2.off i q hi).2.1 h3⟩
    · cases g1
  · cases g1⟩
end
end
end Z
set_option Elab.async false
set_option linter.all false
set_option maxRecDepth 100000
namespace Z
open PySem L2
/-! ### more operations -/
theorem Vw.tupF {K : Fg} {F H : Hp} {v : V} {ds : List D} (h : Vw K F H v (.tuple ds)) : Dp K F v (.tuple ds) := by
  rcases h with h | ⟨_, _, _, _, z, _⟩
  · exact h
  · cases z
/-- list + list, whatever the lists are -/
def rCatL (K : Fg) : R2 := fun x y H Q => ∃ l b xs zs, x = .ref l ∧ y = .ref b ∧ SqL K H l xs ∧ SqL K H b zs ∧ xs.length + zs.length ≤ sizeLine ∧ ∀ p, H p = none → Q (.ref p) (upd H p (.lst (xs ++ zs)))
theorem op_catL {X : Cx} : OpR X (binaryOp .Add) (rCatL X.K) := by
  intro pins s σ H x y v u Q I rx ry h
  obtain ⟨l, b, xs, zs, rfl, rfl, hH, hB, hz, q⟩ := h
  cases rx
  cases ry
  obtain ⟨its, r, ⟨o1, n1, e1, c1, d1, s1⟩, z1⟩ := I.list hH
  obtain ⟨its2, r2, ⟨o2, n2, e2, c2, d2, s2⟩, z2⟩ := I.list hB
  obtain ⟨cls, dd, data, sl⟩ := o1
  obtain ⟨cls2, dd2, data2, sl2⟩ := o2
  simp only at c1 d1 s1 c2 d2 s2
  subst c1 d1 s1 c2 d2 s2
  have ea : its.toArray ++ its2.toArray = (its ++ its2).toArray := by simp
  refine PySem.concat_meets ⟨_, e1, rfl⟩ ⟨_, e2, rfl⟩ PySem.noFill_list_add PySem.seq_list_add PySem.F.slot_list_add PySem.F.entry_list_add (PySem.F.args_list_add_2 _ _) (PyProof.Rows.list_addW l b its.toArray its2.toArray n1 n2 none none sl sl2 (by rw [List.size_toArray, List.size_toArray, ← r.length, ← r2.length]; exact hz)) ⟨e1, e2, ?_⟩
  rw [ea]
  exact ⟨.ref _, _, I.lnew (t' := s.toks) (r.append r2) (by rw [List.length_append]; exact hz), rfl, q _ I.fresh⟩
section
variable {K : Fg}
def rAddU (K : Fg) : R2 := fun x y H Q => (rI0 (fun i j => .int (i + j))) x y H Q ∨ (fun x y H Q => (fun x y H Q => ∃ i j, x = V.str i ∧ y = V.str j ∧ i.length + j.length ≤ sizeLine ∧ Q (V.str (i ++ j)) H) x y H Q ∨ (fun x y H Q => rCatL K x y H Q ∨ rCatA K x y H Q) x y H Q) x y H Q
theorem op_addU {X : Cx} : OpR X (binaryOp .Add) (rAddU X.K) := op_add.or (op_add_str.or (op_catL.or op_catA))
def addD : D → D → Option D
  | .int i, .int j => some (.int (i + j))
  | .str x, .str y => if fits (x.length + y.length) then some (.str (x ++ y)) else none
  | .list xs, .list ys => if fits (xs.length + ys.length) then some (.list (xs ++ ys)) else none
  | .tuple xs, .tuple ys => if fits (xs.length + ys.length) then some (.tuple (xs ++ ys)) else none
  | _, _ => none
theorem g_add : OpG K (rAddU K) addD := fun F H x y dx dy d sF vx vy e Q q => by
  unfold addD at e
  split at e
  · cases e
    rw [vx.int, vy.int]
    exact .inl ⟨_, _, rfl, rfl, q F H _ .refl (.int _)⟩
  · split at e
    · rename_i hf
      cases e
      rw [vx.str, vy.str]
      exact .inr (.inl ⟨_, _, rfl, rfl, fits_of hf, q F H _ .refl (.str _)⟩)
    · cases e
  · split at e
    · rename_i hf
      cases e
      obtain ⟨p, xs, rfl, s1, a1⟩ := vx.lst sF
      obtain ⟨p2, xs2, rfl, s2, a2⟩ := vy.lst sF
      refine .inr (.inr (.inl ⟨p, p2, xs, xs2, rfl, rfl, s1, s2, by rw [dpa_len a1, dpa_len a2]; exact fits_of hf, fun r hr => ?_⟩))
      have hF := sF.free hr
      exact q _ _ _ (.new _ hr) (.lst (SqL.of upd_same) (dpa_mono (same_upd hF) (dpa_append a1 a2)))
    · cases e
  · split at e
    · rename_i hf
      cases e
      obtain ⟨p, xs, rfl, s1, a1⟩ := vx.tup sF
      obtain ⟨p2, xs2, rfl, s2, a2⟩ := vy.tup sF
      have k1 := vx.tupF
      have k2 := vy.tupF
      refine .inr (.inr (.inr ⟨p, p2, xs, xs2, rfl, rfl, s1, s2, by rw [dpa_len a1, dpa_len a2]; exact fits_of hf, fun h => ?_, fun _ h => ?_, fun _ _ r hr => ?_⟩))
      · subst h
        cases a1
        exact q F H _ .refl k2
      · subst h
        cases a2
        rw [List.append_nil] at q
        exact q F H _ .refl k1
      · have hF := sF.free hr
        exact q _ _ _ (.new _ hr) (.tup (SqT.of upd_same) (dpa_mono (same_upd hF) (dpa_append a1 a2)))
    · cases e
  · cases e
/-- is None, is not None -/
def nonB : D → Bool
  | .none => true
  | _ => false
def isN : D → D → Option D
  | x, .none => some (.bool (nonB x))
  | _, _ => none
def notN : D → D → Option D
  | x, .none => some (.bool (!nonB x))
  | _, _ => none
theorem vw_non {F H : Hp} {x : V} {d : D} (h : Vw K F H x d) : decide (x = .non) = nonB d := by
  rcases h with h | ⟨p, xs, ds, rfl, rfl, _, _⟩
  · cases h <;> simp [nonB]
  · simp [nonB]
theorem g_isN : OpG K (fun x y H Q => y = .non ∧ Q (.bl (decide (x = .non))) H) isN := fun F H x y dx dy d sF vx vy e Q q => by
  unfold isN at e
  split at e
  · cases e
    refine ⟨vy.non, ?_⟩
    rw [vw_non vx]
    exact q F H _ .refl (.bl _)
  · cases e
theorem g_notN : OpG K (fun x y H Q => y = .non ∧ Q (.bl (!decide (x = .non))) H) notN := fun F H x y dx dy d sF vx vy e Q q => by
  unfold notN at e
  split at e
  · cases e
    refine ⟨vy.non, ?_⟩
    rw [vw_non vx]
    exact q F H _ .refl (.bl _)
  · cases e
/-! ### built-in calls -/
def lenD : List D → Option D
  | [.list xs] => some (.int xs.length)
  | [.tuple xs] => some (.int xs.length)
  | [.str x] => if fits x.length then some (.int x.length) else none
  | _ => none
theorem g_len : CaG K (fun xs H Q => ∃ x n, xs = [x] ∧ LenV K x H n ∧ Q (.int n) H) lenD := fun F H xs es d sF va e Q q => by
  unfold lenD at e
  split at e
  · cases e
    cases va with
    | cons h t =>
      cases t
      obtain ⟨p, xs, rfl, s1, a1⟩ := h.lst sF
      exact ⟨_, _, rfl, .inl ⟨xs, s1, rfl⟩, by rw [dpa_len a1]; exact q F H _ .refl (.int _)⟩
  · cases e
    cases va with
    | cons h t =>
      cases t
      obtain ⟨p, xs, rfl, s1, a1⟩ := h.tup sF
      exact ⟨_, _, rfl, .inr ⟨xs, s1, rfl⟩, by rw [dpa_len a1]; exact q F H _ .refl (.int _)⟩
  · split at e
    · rename_i hf
      cases e
      cases va with
      | cons h t =>
        cases t
        rw [h.str]
        exact ⟨_, _, rfl, ⟨fits_of hf, rfl⟩, q F H _ .refl (.int _)⟩
    · cases e
  · cases e
def absD : List D → Option D
  | [.int i] => some (.int (if i < 0 then -i else i))
  | _ => none
theorem g_abs : CaG K (fun xs H Q => ∃ i, xs = [.int i] ∧ Q (.int (if i < 0 then -i else i)) H) absD := fun F H xs es d sF va e Q q => by
  unfold absD at e
  split at e
  · cases e
    cases va with
    | cons h t =>
      cases t
      rw [h.int]
      exact ⟨_, rfl, q F H _ .refl (.int _)⟩
  · cases e
def maxD : List D → Option D
  | [.int i, .int j] => some (.int (if j > i then j else i))
  | _ => none
theorem g_max : CaG K (fun xs H Q => ∃ i j, xs = [.int i, .int j] ∧ Q (.int (if j > i then j else i)) H) maxD := fun F H xs es d sF va e Q q => by
  unfold maxD at e
  split at e
  · cases e
    cases va with
    | cons h t =>
      cases t with
      | cons h2 t2 =>
        cases t2
        rw [h.int, h2.int]
        exact ⟨_, _, rfl, q F H _ .refl (.int _)⟩
  · cases e
def minD : List D → Option D
  | [.int i, .int j] => some (.int (if j < i then j else i))
  | _ => none
theorem g_min : CaG K (fun xs H Q => ∃ i j, xs = [.int i, .int j] ∧ Q (.int (if j < i then j else i)) H) minD := fun F H xs es d sF va e Q q => by
  unfold minD at e
  split at e
  · cases e
    cases va with
    | cons h t =>
      cases t with
      | cons h2 t2 =>
        cases t2
        rw [h.int, h2.int]
        exact ⟨_, _, rfl, q F H _ .refl (.int _)⟩
  · cases e
def intD : List D → Option D
  | [.int i] => some (.int i)
  | [.bool k] => some (.int (if k then 1 else 0))
  | _ => none
theorem g_toint : CaG K (fun xs H Q => (∃ i, xs = [.int i] ∧ Q (.int i) H) ∨ ∃ k, xs = [.bl k] ∧ Q (.int (if k then 1 else 0)) H) intD := fun F H xs es d sF va e Q q => by
  unfold intD at e
  split at e
  · cases e
    cases va with
    | cons h t =>
      cases t
      rw [h.int]
      exact .inl ⟨_, rfl, q F H _ .refl (.int _)⟩
  · cases e
    cases va with
    | cons h t =>
      cases t
      rw [h.bl]
      exact .inr ⟨_, rfl, q F H _ .refl (.int _)⟩
  · cases e
def listD : List D → Option D
  | [.list xs] => some (.list xs)
  | [.tuple xs] => some (.list xs)
  | _ => none
abbrev rListOf (K : Fg) : List V → Hp → VK → Prop := fun xs H Q => ∃ p ys, xs = [.ref p] ∧ (SqL K H p ys ∨ SqT K H p ys) ∧ ∀ l, H l = none → Q (.ref l) (upd H l (.lst ys))
theorem g_list : CaG K (rListOf K) listD := fun F H xs es d sF va e Q q => by
  have go : ∀ {p : Addr} {xs : List V} {ds : List D}, DpAll K F xs ds → ∀ l, H l = none → (d = .list ds) → Q (.ref l) (upd H l (.lst xs)) := fun {p xs ds} al l hl z => by
    subst z
    exact q _ _ _ (.new _ hl) (.lst (SqL.of upd_same) (dpa_mono (same_upd (sF.free hl)) al))
  unfold listD at e
  split at e
  · cases e
    cases va with
    | cons h t =>
      cases t
      obtain ⟨p, xs, rfl, s1, a1⟩ := h.lst sF
      exact ⟨p, xs, rfl, .inl s1, fun l hl => go (p := p) a1 l hl rfl⟩
  · cases e
    cases va with
    | cons h t =>
      cases t
      obtain ⟨p, xs, rfl, s1, a1⟩ := h.tup sF
      exact ⟨p, xs, rfl, .inr s1, fun l hl => go (p := p) a1 l hl rfl⟩
  · cases e
def tupleD : List D → Option D
  | [.list xs] => some (.tuple xs)
  | [.tuple xs] => some (.tuple xs)
  | _ => none
theorem g_tuple : CaG K (fun xs H Q => ∃ p ys, xs = [.ref p] ∧ ((SqL K H p ys ∧ ∀ l, H l = none → Q (.ref l) (upd H l (.tup ys))) ∨ (SqT K H p ys ∧ Q (.ref p) H))) tupleD := fun F H xs es d sF va e Q q => by
  unfold tupleD at e
  split at e
  · cases e
    cases va with
    | cons h t =>
      cases t
      obtain ⟨p, xs, rfl, s1, a1⟩ := h.lst sF
      exact ⟨p, xs, rfl, .inl ⟨s1, fun l hl => q _ _ _ (.new _ hl) (.tup (SqT.of upd_same) (dpa_mono (same_upd (sF.free hl)) a1))⟩⟩
  · cases e
    cases va with
    | cons h t =>
      cases t
      obtain ⟨p, xs, rfl, s1, a1⟩ := h.tup sF
      have k1 := h.tupF
      exact ⟨p, xs, rfl, .inr ⟨s1, q F H _ .refl k1⟩⟩
  · cases e
/-- isinstance -/
def tyD : D → String
  | .none => "NoneType"
  | .bool _ => "bool"
  | .int _ => "int"
  | .str _ => "str"
  | .list _ => "list"
  | .tuple _ => "tuple"
  | .dict _ => "dict"
def isiB (T : String) : D → Bool
  | .none => false
  | .bool _ => T == "bool" || T == "int"
  | .int _ => T == "int"
  | .str _ => T == "str"
  | .list _ => T == "list"
  | .tuple _ => T == "tuple"
  | .dict _ => T == "dict"
theorem dp_ty {H : Hp} {v : V} {d : D} (h : Dp K H v d) : TyX K H v (.type (tyD d)) := by
  cases h with
  | non => exact .base .non
  | bl b => exact .base (.bl b)
  | int i => exact .base (.int i)
  | str x => exact .base (.str x)
  | lst h _ =>
    rcases h with (h | ⟨o, h⟩) | ⟨o, _, _, h1, h2, _⟩
    · exact .base (.lst h)
    · exact .base (.frz h)
    · exact .kList h1 h2
  | tup h _ =>
    rcases h with (h | ⟨o, h⟩) | ⟨o, _, _, h1, h2, _⟩
    · exact .base (.tup h)
    · exact .fTuple h
    · exact .kTuple h1 h2
end
def okTy (T : String) : Bool := T == "int" || T == "bool" || T == "str" || T == "list" || T == "tuple"
theorem kit_all (T : String) (h : okTy T = true) (d : D) : kitB (tyD d) T = some (isiB T d) := by
  have hT : T = "int" ∨ T = "bool" ∨ T = "str" ∨ T = "list" ∨ T = "tuple" := by
    simp only [okTy, Bool.or_eq_true, beq_iff_eq] at h
    rcases h with (((h | h) | h) | h) | h
    · exact .inl h
    · exact .inr (.inl h)
    · exact .inr (.inr (.inl h))
    · exact .inr (.inr (.inr (.inl h)))
    · exact .inr (.inr (.inr (.inr h)))
  rcases hT with rfl | rfl | rfl | rfl | rfl <;> cases d <;> simp only [tyD, isiB] <;> decide +kernel
section
variable {K : Fg} {c : Ctx} {O : List Kd} {ta te : TE} {b1 : M BR} {m : M D}
theorem d_isi (T : String) (h : DB K c O ta b1) (hT : okTy T = true := by rfl) : DE K c O (tCB (rIsi K) (tCons ta (tCons (tC (.ty T)) tNil))) (mUn (fun d => some (.bool (isiB T d))) b1) := ⟨fun {F H σ fps ds ds' d} rl e Q q => by
  obtain ⟨x, s1, e1, g2⟩ := bnd_ok e
  refine h.run rl e1 _ fun F1 H1 fps1 v sF r1 bv => ?_
  split at g2
  · rename_i dx hx
    obtain ⟨g3, z⟩ := opt_ok g2
    subst z
    cases g3
    have dp := (Bm.vw r1 bv hx).dp r1.sub
    exact ⟨v, .ty T, _, _, isiB T dx, rfl, .ty T, dp_ty dp, kit_ty (kit_all T hT dx), q F1 H1 fps1 _ sF r1 (.bl _)⟩
  · cases g2⟩
/-! ### slices -/
structure DP (K : Fg) (c : Ctx) (O : List Kd) (t : TO) (m : M (Option Int)) : Prop where
  run : ∀ {F H : Hp} {σ : St} {fps : Nat → List Addr} {ds ds' : DS} {o : Option Int}, Rel K c O F H σ fps ds → m ds = .ok o ds' → ∀ Q : Option Int → Hp → Prop,
    (∀ F' H' fps', Same F F' → Rel K c O F' H' σ fps' ds' → Q o H') → t σ H Q
def mP0 : M (Option Int) := fun s => .ok none s
def mP1 (m : M D) : M (Option Int) := bnd m fun d => opt (match d with | .int i => some (some i) | _ => none)
theorem p_none : DP K c O tNoPart mP0 := ⟨fun r e Q q => by cases e; exact q _ _ _ (Same.refl _) r⟩
theorem p_some (h : DE K c O te m) : DP K c O (tPart te) (mP1 m) := ⟨fun {F H σ fps ds ds' o} r e Q q => by
  obtain ⟨d, s1, e1, g1⟩ := bnd_ok e
  obtain ⟨g2, z⟩ := opt_ok g1
  subst z
  refine h.run r e1 _ fun F1 H1 fps1 v sF r1 dp => ?_
  split at g2
  · cases g2; cases dp; exact ⟨_, rfl, q F1 H1 fps1 sF r1⟩
  · cases g2⟩
def rSlU (K : Fg) : V → Option Int → Option Int → Hp → VK → Prop := fun x lo hi H Q => rSlL K x lo hi H Q ∨ (fun x lo hi H Q => rSlA K x lo hi H Q ∨ rSlS x lo hi H Q) x lo hi H Q
theorem sl_U {X : Cx} : SlR X (rSlU X.K) := sl_list.or (sl_tupA.or sl_str)
def cutD (xs : List D) (lo hi : Option Int) : List D := (xs.drop (HT.sIx xs.length 0 lo)).take (HT.sIx xs.length xs.length hi - HT.sIx xs.length 0 lo)
def slD (x : D) (lo hi : Option Int) : Option D := match x with
  | .list xs => some (.list (cutD xs lo hi))
  | .tuple xs => some (.tuple (cutD xs lo hi))
  | .str z => if fits z.length then some (.str (cutS z lo hi)) else none
  | _ => none
def mSl (a : M BR) (lo hi : M (Option Int)) : M D := bnd a fun x => bnd lo fun l => bnd hi fun h => fun s => match res s x with
  | some d => opt (slD d l h) s
  | none => .no
theorem cut_dp {F : Hp} {xs : List V} {ds : List D} (al : DpAll K F xs ds) (lo hi : Option Int) : DpAll K F (cutV xs lo hi) (cutD ds lo hi) := by
  unfold cutV cutD
  rw [dpa_len al]
  exact dpa_take _ (dpa_drop _ al)
theorem d_sl {tl th : TO} {ml mh : M (Option Int)} (h : DB K c O ta b1) (hl : DP K c O tl ml) (hh : DP K c O th mh) : DE K c O (tSl (rSlU K) ta tl th) (mSl b1 ml mh) := ⟨fun {F H σ fps ds ds' d} r e Q q => by
  obtain ⟨x, s1, e1, g1⟩ := bnd_ok e
  obtain ⟨l, s2, e2, g2⟩ := bnd_ok g1
  obtain ⟨u, s3, e3, g3⟩ := bnd_ok g2
  refine h.run r e1 _ fun F1 H1 fps1 v sF r1 bv => ?_
  refine hl.run r1 e2 _ fun F2 H2 fps2 sF2 r2 => ?_
  refine hh.run r2 e3 _ fun F3 H3 fps3 sF3 r3 => ?_
  split at g3
  · rename_i dx hx
    obtain ⟨g4, z⟩ := opt_ok g3
    subst z
    have vw := Bm.vw r3 (bv.mono (sF2.trans sF3)) hx
    have s13 := (sF.trans sF2).trans sF3
    have fin : ∀ F' H' v, Grow F3 H3 F' H' → Dp K F' v d → Q v H' := fun F' H' v g dp => by
      obtain ⟨r4, s4⟩ := g.rel r3
      exact q F' H' fps3 v (s13.trans s4) r4 dp
    unfold slD at g4
    split at g4
    · cases g4
      obtain ⟨p, xs, rfl, sq, al⟩ := vw.lst r3.sub
      exact .inl ⟨p, xs, rfl, sq, fun p' hp => fin _ _ _ (.new _ hp) (.lst (SqL.of upd_same) (dpa_mono (same_upd (r3.sub.free hp)) (cut_dp al l u)))⟩
    · cases g4
      obtain ⟨p, xs, rfl, sq, al⟩ := vw.tup r3.sub
      have k1 := vw.tupF
      refine .inr (.inl ⟨p, xs, rfl, sq, fun hz => ?_, fun _ p' hp => fin _ _ _ (.new _ hp) (.tup (SqT.of upd_same) (dpa_mono (same_upd (r3.sub.free hp)) (cut_dp al l u)))⟩)
      rw [dpa_len al] at hz
      have hc : ∀ ys : List D, HT.sIx ys.length 0 l = 0 ∧ HT.sIx ys.length ys.length u = ys.length → cutD ys l u = ys := fun ys h => by
        unfold cutD
        rw [h.1, h.2]
        simp
      rw [hc _ hz] at fin
      exact fin _ _ _ .refl k1
    · split at g4
      · rename_i hf
        cases g4
        rw [vw.str]
        exact .inr (.inr ⟨_, rfl, fits_of hf, fin _ _ _ .refl (.str _)⟩)
      · cases g4
    · cases g4
  · cases g3⟩
/-! ### list(range(a, b)) -/
structure DR (K : Fg) (c : Ctx) (O : List Kd) (t : St → Hp → (Int → Int → Hp → Prop) → Prop) (m : M (Int × Int)) : Prop where
  run : ∀ {F H : Hp} {σ : St} {fps : Nat → List Addr} {ds ds' : DS} {a b : Int}, Rel K c O F H σ fps ds → m ds = .ok (a, b) ds' → ∀ Q : Int → Int → Hp → Prop,
    (∀ F' H' fps', Same F F' → Rel K c O F' H' σ fps' ds' → Q a b H') → t σ H Q
def mRg1 (m : M D) : M (Int × Int) := bnd m fun d => opt (match d with | .int n => some (0, n) | _ => none)
def mRg2 (m n : M D) : M (Int × Int) := bnd m fun d => bnd n fun e => opt (match d, e with | .int a, .int b => some (a, b) | _, _ => none)
theorem rg_1 (h : DE K c O te m) : DR K c O (tRg1 te) (mRg1 m) := ⟨fun {F H σ fps ds ds' a b} r e Q q => by
  obtain ⟨d, s1, e1, g1⟩ := bnd_ok e
  obtain ⟨g2, z⟩ := opt_ok g1
  subst z
  refine h.run r e1 _ fun F1 H1 fps1 v sF r1 dp => ?_
  split at g2
  · cases g2; cases dp; exact ⟨_, rfl, q F1 H1 fps1 sF r1⟩
  · cases g2⟩
theorem rg_2 {tb : TE} {n : M D} (h : DE K c O te m) (h2 : DE K c O tb n) : DR K c O (tRg2 te tb) (mRg2 m n) := ⟨fun {F H σ fps ds ds' a b} r e Q q => by
  obtain ⟨d, s1, e1, g1⟩ := bnd_ok e
  obtain ⟨d2, s2, e2, g2⟩ := bnd_ok g1
  obtain ⟨g3, z⟩ := opt_ok g2
  subst z
  refine h.run r e1 _ fun F1 H1 fps1 v sF r1 dp => ?_
  refine h2.run r1 e2 _ fun F2 H2 fps2 v2 sF2 r2 dp2 => ?_
  split at g3
  · cases g3; cases dp; cases dp2; exact ⟨_, _, rfl, rfl, q F2 H2 fps2 (sF.trans sF2) r2⟩
  · cases g3⟩
def rgD (a b : Int) : List D := (List.range (b - a).toNat).map fun i => .int (a + (i : Nat))
def rgC (a b : Int) : Bool := decide (-(2 ^ 62) ≤ a ∧ a < 2 ^ 62 ∧ -(2 ^ 62) ≤ b ∧ b < 2 ^ 62 ∧ (b - a).toNat ≤ 2 ^ 24)
def mLstRg (m : M (Int × Int)) : M D := bnd m fun p => opt (if rgC p.1 p.2 then some (.list (rgD p.1 p.2)) else none)
theorem rg_dp (F : Hp) (a b : Int) : DpAll K F (rgV a b) (rgD a b) := by
  unfold rgV rgD
  generalize (b - a).toNat = n
  have : ∀ l : List Nat, DpAll K F (l.map fun i => V.int (a + (i : Nat))) (l.map fun i => PyData.int (a + (i : Nat))) := fun l => by
    induction l with
    | nil => exact .nil
    | cons x r ih => exact .cons (.int _) ih
  exact this _
theorem o_lstRg {t : St → Hp → (Int → Int → Hp → Prop) → Prop} {mr : M (Int × Int)} (h : DR K c O t mr) : DO K c O (.ls .sh) (tLstRg t) (mLstRg mr) := ⟨fun {F H σ fps ds ds' d} r e Q q => by
  obtain ⟨⟨a, b⟩, s1, e1, g1⟩ := bnd_ok e
  obtain ⟨g2, z⟩ := opt_ok g1
  subst z
  refine h.run r e1 _ fun F1 H1 fps1 sF r1 => ?_
  split at g2
  · rename_i hc
    cases g2
    refine ⟨(of_decide_eq_true hc : -(2 ^ 62) ≤ a ∧ a < 2 ^ 62 ∧ -(2 ^ 62) ≤ b ∧ b < 2 ^ 62 ∧ (b - a).toNat ≤ 2 ^ 24), fun p hp => ?_⟩
    obtain ⟨hF, h0, hq⟩ := r1.fresh hp
    refine q F1 _ fps1 (.ref p) [p] sF (r1.allocO hp _) (ls_ow upd_same (rg_dp F1 a b)) (fun q' hq' => ?_) (by simp)
    have : q' = p := by simpa using hq'
    subst this
    exact ⟨hF, by rw [upd_same]; simp, h0, hq⟩
  · cases g2⟩
/-! ### what a for walks -/
def iSeq (K : Fg) (te : TE) : TI := fun σ H R => iList K te σ H R ∨ iTup K te σ H R
theorem pi_or {X : Cx} {tg e : Expr} {w w' : TI} (h : PI X tg e w) (h' : PI X tg e w') : PI X tg e (fun σ H R => w σ H R ∨ w' σ H R) := ⟨fun pins s σ H R I q => q.elim (h.run pins s σ H R I) (h'.run pins s σ H R I)⟩
theorem pi_seq {X : Cx} {tg e : Expr} {te : TE} (h : PE X e te) : PI X tg e (iSeq X.K te) := pi_or (pi_list h) (pi_tup h)
def mIt (m : M D) : M (List D) := bnd m fun d => opt (match d with | .list xs => some xs | .tuple xs => some xs | _ => none)
theorem walk_l {F : Hp} {a : Addr} {xs : List V} {ds : List D} (hq : SqL K F a xs) (al : DpAll K F xs ds) : Walks K F (Itl K a) ds := fun F1 H1 i s1 s2 => by
  have hq1 : SqL K H1 a xs := sqL_mono (s1.trans s2) hq
  refine ⟨fun d hd => ?_, fun hi => ⟨xs, hq1, by rw [dpa_len al]; omega⟩⟩
  obtain ⟨v, hv, dp⟩ := dpa_get al hd
  exact ⟨⟨xs, v, hq1, hv⟩, fun x H2 hy => ⟨F1, by obtain ⟨e, _⟩ := hy; subst e; exact .refl, by
    obtain ⟨e, hy⟩ := hy
    have := hy xs hq1
    rw [hv] at this
    cases this
    exact dp_mono s1 dp⟩⟩
theorem walk_t {F : Hp} {a : Addr} {xs : List V} {ds : List D} (hq : SqT K F a xs) (al : DpAll K F xs ds) : Walks K F (Itt K a) ds := fun F1 H1 i s1 s2 => by
  have hq1 : SqT K H1 a xs := sqT_mono (s1.trans s2) hq
  refine ⟨fun d hd => ?_, fun hi => ⟨xs, hq1, by rw [dpa_len al]; omega⟩⟩
  obtain ⟨v, hv, dp⟩ := dpa_get al hd
  exact ⟨⟨xs, v, hq1, hv⟩, fun x H2 hy => ⟨F1, by obtain ⟨e, _⟩ := hy; subst e; exact .refl, by
    obtain ⟨e, hy⟩ := hy
    have := hy xs hq1
    rw [hv] at this
    cases this
    exact dp_mono s1 dp⟩⟩
theorem i_seq (h : DE K c O te m) : DI K c O (iSeq K te) (mIt m) := ⟨fun {F H σ fps ds ds' xs} r e R q => by
  obtain ⟨d, s1, e1, g1⟩ := bnd_ok e
  obtain ⟨g2, z⟩ := opt_ok g1
  subst z
  split at g2
  · cases g2
    refine .inl (h.run r e1 _ fun F1 H1 fps1 v sF r1 dp => ?_)
    cases dp with
    | lst hq al => exact ⟨_, rfl, ⟨_, sqL_mono r1.sub hq⟩, q F1 H1 fps1 _ sF r1 (walk_l hq al)⟩
  · cases g2
    refine .inr (h.run r e1 _ fun F1 H1 fps1 v sF r1 dp => ?_)
    cases dp with
    | tup hq al => exact ⟨_, rfl, ⟨_, sqT_mono r1.sub hq⟩, q F1 H1 fps1 _ sF r1 (walk_t hq al)⟩
  · cases g2⟩
def rngC (a b : Int) : Bool := decide (-(2 ^ 62) ≤ a ∧ a < 2 ^ 62 ∧ -(2 ^ 62) ≤ b ∧ b < 2 ^ 62)
def mR1 (m : M (List D)) : M (List D) := bnd m fun ds => opt (match ds with | [.int j] => if rngC 0 j then some (rgD 0 j) else none | _ => none)
def mR2 (m : M (List D)) : M (List D) := bnd m fun ds => opt (match ds with | [.int i, .int j] => if rngC i j then some (rgD i j) else none | _ => none)
theorem rgD_get {a b : Int} {i : Nat} {d : D} (h : (rgD a b)[i]? = some d) : i < (b - a).toNat ∧ d = .int (a + i) := by
  unfold rgD at h
  rw [List.getElem?_map] at h
  cases z : (List.range (b - a).toNat)[i]? with
  | none => rw [z] at h; cases h
  | some j =>
    rw [z] at h
    have hi : i < (b - a).toNat := by
      have := (List.getElem?_eq_some_iff.mp z).1
      simpa using this
    rw [List.getElem?_range hi] at z
    cases z
    cases h
    exact ⟨hi, rfl⟩
theorem rgD_len (a b : Int) : (rgD a b).length = (b - a).toNat := by unfold rgD; rw [List.length_map, List.length_range]
theorem walk_r {F : Hp} (a b : Int) : Walks K F (Itr a (b - a).toNat) (rgD a b) := fun F1 H1 i s1 s2 => by
  refine ⟨fun d hd => ?_, fun hi => by rw [rgD_len] at hi; exact Nat.le_of_eq hi.symm⟩
  obtain ⟨hi, rfl⟩ := rgD_get hd
  refine ⟨hi, fun x H2 hy => ?_⟩
  obtain ⟨e, rfl⟩ := hy
  subst e
  exact ⟨F1, .refl, .int _⟩
theorem i_r1 {tl : TA} {ml : M (List D)} (h : DA K c O tl ml) : DI K c O (iRng1 tl) (mR1 ml) := ⟨fun {F H σ fps ds ds' xs} r e R q => by
  obtain ⟨es, s1, e1, g1⟩ := bnd_ok e
  obtain ⟨g2, z⟩ := opt_ok g1
  subst z
  refine h.run r e1 _ fun F1 H1 fps1 vs sF r1 al => ?_
  split at g2
  · split at g2
    · rename_i hc
      cases g2
      cases al with
      | cons h1 t1 =>
        cases t1
        cases h1
        have hh := of_decide_eq_true hc
        refine ⟨_, rfl, hh.2.2.1, hh.2.2.2, q F1 H1 fps1 _ sF r1 ?_⟩
        have w := walk_r (K := K) (F := F1) 0
        rename_i j
        have w' := w j
        rw [show j - 0 = j by omega] at w'
        exact w'
    · cases g2
  · cases g2⟩
theorem i_r2 {tl : TA} {ml : M (List D)} (h : DA K c O tl ml) : DI K c O (iRng2 tl) (mR2 ml) := ⟨fun {F H σ fps ds ds' xs} r e R q => by
  obtain ⟨es, s1, e1, g1⟩ := bnd_ok e
  obtain ⟨g2, z⟩ := opt_ok g1
  subst z
  refine h.run r e1 _ fun F1 H1 fps1 vs sF r1 al => ?_
  split at g2
  · split at g2
    · rename_i hc
      cases g2
      cases al with
      | cons h1 t1 =>
        cases t1 with
        | cons h2 t2 =>
          cases t2
          cases h1
          cases h2
          have hh := of_decide_eq_true hc
          exact ⟨_, _, rfl, hh, q F1 H1 fps1 _ sF r1 (walk_r _ _)⟩
    · cases g2
  · cases g2⟩
/-- return x, x a list of one's own -/
theorem c_retV {Ob O' : List Kd} (i : Nat) (hk : c.rk = O.getD i .sh) (hi : c.ps.1[i]? = none ∧ i ∉ c.ps.2) (hp : isPm O[i]? = false := by rfl) : DC K c Ob O (tRet (tVar i)) (sRet (mVar i)) O' := ⟨fun {F H σ fps ds} r E p => by
  unfold sRet mVar at p
  cases z : ds[i]? with
  | none => simp only [z] at p; exact p.elim
  | some o =>
    cases o with
    | none => simp only [z] at p; exact p.elim
    | some d =>
      simp only [z] at p
      obtain ⟨v, hv, ow⟩ := r.slots i d z
      refine ⟨v, hv, p F H σ fps O v (fps i) (Same.refl _) r (by rw [hk]; exact ow) (fun q hq => ?_) (r.nd i)⟩
      obtain ⟨h1, h2, h3⟩ := r.off i q hq
      refine ⟨h1, h2, ?_, fun j hj hq' => ?_⟩
      · rcases h3 with h3 | ⟨_, h3⟩
        · exact h3
        · rw [hp] at h3; cases h3
      · by_cases y : j = i
        · subst y
          rcases hj with hj | hj
          · rw [hi.1] at hj; cases hj
          · exact hi.2 hj
        · exact r.dj j i y q hq' hq⟩
/-- x op= e -/
def sAug (i : Nat) (f : D → D → Option D) (m : M D) : MS := fun s => match s[i]? with
  | some (some x) => match m s with
    | .ok y s' => match f x y with
      | some z => .nx (s'.set i (some z))
      | none => .no
    | .no => .no
  | _ => .no
theorem c_aug {Ob : List Kd} (i : Nat) {g : Int → Int → Int} (h : DE K c O te m) (hi : i < O.length := by first | decide | exact of_decide_eq_true rfl) (hp : isPm O[i]? = false := by rfl) (hk : O.getD i .sh = .sh := by rfl) : DC K c Ob O (tAug i te (ipI g)) (sAug i (i2 fun a b => some (.int (g a b))) m) (O.set i .sh) := ⟨fun {F H σ fps ds} r E p => by
  unfold sAug at p
  split at p
  · rename_i x hx
    obtain ⟨v, hv, ow⟩ := r.slots i x hx
    rw [hk] at ow
    refine ⟨v, hv, ?_⟩
    cases e : m ds with
    | no => rw [e] at p; exact p.elim
    | ok y s' =>
      rw [e] at p
      dsimp only at p
      refine h.run r e _ fun F1 H1 fps1 w s1 r1 dp => ?_
      split at p
      · rename_i z hz
        unfold i2 at hz
        split at hz
        · cases hz
          obtain ⟨_, ow⟩ := ow
          cases ow
          cases dp
          exact ⟨_, _, rfl, rfl, p F1 H1 _ _ s1 (r1.put hi hp (k := .sh) (fpv := []) ⟨rfl, .int _⟩ (fun q hq => absurd hq (by simp)) (by simp))⟩
        · cases hz
      · exact p.elim
  · exact p.elim⟩
/-- slot i is forgotten -/
def sKill (i : Nat) (b : MS) : MS := fun s => b (s.set i none)
theorem c_kill {Ob O' : List Kd} {t : TS} {b : MS} (i : Nat) (hi : i < O.length) (hp : isPm O[i]? = false) (h : DC K c Ob (O.set i .sh) t b O') : DC K c Ob O t (sKill i b) O' := ⟨fun {F H σ fps ds} r E p => by
  refine h.run (F := F) (H := H) (σ := σ) (fps := fun j => if j = i then [] else fps j) ?_ E p
  have hne : ∀ j k', c.pk j = some k' → j ≠ i := fun j k' hjk z => by
    subst z
    rw [(r.par j k' hjk).1] at hp
    exact absurd hp (by simp [isPm])
  refine ⟨r.sub, r.base, r.keep, r.live, r.new, fun j e hj => ?_, fun j q hq => ?_, fun j => ?_, fun j l hjl q hq hq' => ?_, fun j k' h => ?_, by rw [List.length_set]; exact r.len⟩
  · have z : j ≠ i := fun z => by
      subst z
      by_cases hl : j < ds.length
      · rw [List.getElem?_set_self hl] at hj; cases hj
      · rw [List.getElem?_eq_none (by rw [List.length_set]; omega)] at hj; cases hj
    rw [List.getElem?_set_ne (Ne.symm z)] at hj
    obtain ⟨u, hu, w⟩ := r.slots j e hj
    refine ⟨u, hu, ?_⟩
    rw [getD_set_ne z]
    simp only [if_neg z]
    exact w
  · by_cases z : j = i
    · simp only [z, if_pos] at hq; exact absurd hq (by simp)
    · simp only [if_neg z] at hq
      rw [List.getElem?_set_ne (Ne.symm z)]
      exact r.off j q hq
  · by_cases z : j = i
    · simp only [z, if_pos]; simp
    · simp only [if_neg z]; exact r.nd j
  · by_cases z : j = i
    · simp only [z, if_pos] at hq; exact absurd hq (by simp)
    · by_cases z' : l = i
      · simp only [z', if_pos] at hq'; exact absurd hq' (by simp)
      · simp only [if_neg z] at hq
        simp only [if_neg z'] at hq'
        exact r.dj j l hjl q hq hq'
  · have h' := hne j k' h
    obtain ⟨a, b⟩ := r.par j k' h
    exact ⟨by rw [List.getElem?_set_ne (Ne.symm h')]; exact a, b⟩⟩
/-! ### a def of the text -/
/-- what a caller knows of a def -/
def Fk (P : Program) (w : World) (K : Fg) (mg : Str → Option Value) (base : Heap) (x : Str) (k : Nat) (ps : List Str) (sp : Sp) : Prop :=
  ∃ (f : Addr) (fd : FuncData), FnOk P w K mg base CX0 k f fd ps sp ∧ mg x = some (.ref f) ∧ PySem.W.keepIn K (.ref f) = true ∧ Binds K fd ps []
end
abbrev FnP (K : Fg) (x : Str) (st : Stmt) (f : Addr) (fd : FuncData) : Prop := FunD K x x (defArgs st) (defBody st) (defScope st) [] [] f fd
theorem fn_ok {P : Program} {w : World} {K : Fg} {mg : Str → Option Value} {base : Heap} {x : Str} {st : Stmt} {f : Addr} {fd : FuncData} {N xs : List Str} {ps : List Kd} {rk : Kd} {k : Nat} {b : MS} {O1 : List Kd} (F : FnP K x st f fd) (S : FnScope N xs (defScope st)) (hx : xs.length = ps.length) (hN : ps.length ≤ N.length)
    (h : ∀ (cdv : Value) (A : Around) (outer : List Env) (s : Shared) (H : Hp) (E : XK), Room k (A.deeper (PyProof.Rows.envOfC x (defScope st) s.heap.objs.size f cdv)) →
      ∃ t, PSs (cxOf CX0 P w K mg base N x (defScope st) f cdv A outer s H E).nox (defBody st) t ∧ ∀ c : Ctx, c.ps = (ps, []) → c.rk = rk → c.mg = mg → DC K c [] (ps ++ List.replicate (N.length - ps.length) .sh) t b O1) :
    FnOk P w K mg base CX0 (k + 1) f fd xs (spD K mg (fnD N.length ps.length rk b) ps rk) := by
  refine F.ok S (fun vs H Q E q => (spD_len q).trans hx.symm) (fun cdv A outer s H vs Q E hr q => ?_)
  obtain ⟨t, p, d⟩ := h cdv A outer s H E hr
  exact ⟨t, p.nox, body_ok rfl E (fun c h1 h2 h3 _ _ => d c h1 h2 h3) q hN⟩
/-- a def that may raise -/
theorem fn_okX {P : Program} {w : World} {K : Fg} {mg : Str → Option Value} {base : Heap} {x : Str} {st : Stmt} {f : Addr} {fd : FuncData} {N xs : List Str} {ps : List Kd} {rk : Kd} {k : Nat} {b : MS} {O1 : List Kd} (F : FnP K x st f fd) (S : FnScope N xs (defScope st)) (hx : xs.length = ps.length) (hN : ps.length ≤ N.length)
    (h : ∀ (cdv : Value) (A : Around) (outer : List Env) (s : Shared) (H : Hp) (E : XK), Room k (A.deeper (PyProof.Rows.envOfC x (defScope st) s.heap.objs.size f cdv)) →
      ∃ t, PSs (cxOf (L2.CX P w) P w K mg base N x (defScope st) f cdv A outer s H E) (defBody st) t ∧ ∀ c : Ctx, c.ps = (ps, []) → c.rk = rk → c.mg = mg → c.Ox = none → (c.W = fun cls d _ H => E cls d H) → DC K c [] (ps ++ List.replicate (N.length - ps.length) .sh) t b O1) :
    FnOk P w K mg base (L2.CX P w) (k + 1) f fd xs (spD K mg (fnD N.length ps.length rk b) ps rk) := by
  refine F.ok S (fun vs H Q E q => (spD_len q).trans hx.symm) (fun cdv A outer s H vs Q E hr q => ?_)
  obtain ⟨t, p, d⟩ := h cdv A outer s H E hr
  exact ⟨t, p, body_ok rfl E d q hN⟩
def addN := i2 fun a b => some (.int (a + b))
def subN := i2 fun a b => some (.int (a - b))
end Z
set_option Elab.async false
set_option linter.all false
set_option maxRecDepth 100000
namespace Z
open PySem L2
open PyProof.Rows in theorem bt_isinstance : bootBuiltins "isinstance" = some (.builtin "isinstance") := boot_isinstance
open PyProof.Rows in theorem bt_int : bootBuiltins "int" = some (.type "int") := boot_int
open PyProof.Rows in theorem bt_bool : bootBuiltins "bool" = some (.type "bool") := boot_bool
open PyProof.Rows in theorem bt_tuple : bootBuiltins "tuple" = some (.type "tuple") := boot_tuple
open PyProof.Rows in theorem bt_list : bootBuiltins "list" = some (.type "list") := boot_list
open PyProof.Rows in theorem bt_str : bootBuiltins "str" = some (.type "str") := boot_str
open PyProof.Rows in theorem bt_len : bootBuiltins "len" = some (.builtin "len") := boot_len
open PyProof.Rows in theorem bt_abs : bootBuiltins "abs" = some (.builtin "abs") := boot_abs
open PyProof.Rows in theorem bt_max : bootBuiltins "max" = some (.builtin "max") := boot_max
open PyProof.Rows in theorem bt_min : bootBuiltins "min" = some (.builtin "min") := boot_min
open PyProof.Rows in theorem bt_sum : bootBuiltins "sum" = some (.builtin "sum") := boot_sum
open PyProof.Rows in theorem bt_sorted : bootBuiltins "sorted" = some (.builtin "sorted") := boot_sorted
def scr (ns : List Int) : D := .list (ns.map .int)
theorem scr_dp {K : Fg} {H : Hp} : ∀ ns : List Int, DpAll K H (ns.map V.int) (ns.map PyData.int)
  | [] => .nil
  | n :: r => .cons (.int n) (scr_dp r)
theorem law_sp {K : Fg} {mg : Str → Option Value} {f : FD} (h : ∀ ns : List Int, ns.length ≤ 63 → ∃ as, f [scr ns] = .ok (.bool true) as) (H : Hp) (a : Addr) (ns : List Int) (hl : ns.length ≤ 63) (hS : SqL K H a (ns.map V.int)) (E : XK) :
    spD K mg f [.sh] .sh [.ref a] H (fun v _ => v = .bl true) E := by
  obtain ⟨as, e⟩ := h ns hl
  refine spD_ok (args_sh rfl (Same.refl _) (.cons (.lst hS (scr_dp ns)) .nil) rfl) e fun F' H' fps' v fpv o => ?_
  obtain ⟨_, dp⟩ := o.res
  cases dp
  rfl
end Z
set_option Elab.async false
set_option linter.all false
set_option maxRecDepth 100000
namespace Z
open PySem L2
/-! ### what an expression, a statement comes to, by what is wanted behind it -/
theorem nr {α : Sort u} {a b : α} (h : a = b) : a = b := h
/-- holds what simp is not to walk into -/
def W1 {α : Sort u} (_ : α) : Type := Unit
def W2 {α : Sort u} {β : Sort v} (_ : α) (_ : β) : Type := Unit
def W5 {α : Sort u} {β : Sort v} {γ : Sort w} {δ : Sort x} {ε : Sort y} (_ : α) (_ : β) (_ : γ) (_ : δ) (_ : ε) : Type := Unit
def Ev0 {α : Type} (m : M α) (s : DS) (Q : α → DS → Prop) (_ : W2 m Q := Unit.unit) : Prop := match m s with
  | .ok a s' => Q a s'
  | .no => False
def Run0 (b : MS) (s : DS) (Nx : DS → Prop) (Rt : D → DS → Prop) (Bk Ct : DS → Prop) (Ex : Xc → DS → Prop) (_ : W5 b Nx Rt Bk (Ct, Ex) := Unit.unit) : Prop := match b s with
  | .nx s' => Nx s'
  | .rt d s' => Rt d s'
  | .bk s' => Bk s'
  | .ct s' => Ct s'
  | .ex x s' => Ex x s'
  | .no => False
def So0 {α : Type} (o : Option α) (Q : α → Prop) (_ : W1 Q := Unit.unit) : Prop := match o with
  | some a => Q a
  | none => False
theorem ev_ext_0 {α : Type} {m : M α} {s : DS} {Q Q' : α → DS → Prop} (h : ∀ a s', Q a s' = Q' a s') : Ev0 m s Q = Ev0 m s Q' := by
  have : Q = Q' := funext fun a => funext fun s' => h a s'
  rw [this]
theorem so_ext_0 {α : Type} {o : Option α} {Q Q' : α → Prop} (h : ∀ a, Q a = Q' a) : So0 o Q = So0 o Q' := by
  have : Q = Q' := funext h
  rw [this]
section
variable {α β : Type} {s : DS} {Nx Bk Ct : DS → Prop} {Ex : Xc → DS → Prop} {Rt : D → DS → Prop}
theorem so_some_0 {a : α} {Q : α → Prop} : So0 (some a) Q = Q a := nr rfl
theorem so_none_0 {Q : α → Prop} : So0 (none : Option α) Q = False := nr rfl
theorem so_if_0 {c : Bool} {o : Option α} {Q : α → Prop} : So0 (if c = true then o else none) Q = (c = true ∧ So0 o Q) := by
  cases c <;> simp [So0]
theorem so_dec_0 {c : Prop} [Decidable c] {o : Option α} {Q : α → Prop} : So0 (if c then o else none) Q = (c ∧ So0 o Q) := by
  by_cases h : c <;> simp [So0, h]
theorem ev_bnd_0 {m : M α} {f : α → M β} {Q : β → DS → Prop} : Ev0 (bnd m f) s Q = Ev0 m s fun a s' => Ev0 (f a) s' Q := by
  unfold Ev0 bnd
  cases m s <;> rfl
theorem ev_ok_0 {a : α} {Q : α → DS → Prop} : Ev0 (fun s => R.ok a s) s Q = Q a s := nr rfl
theorem ev_opt_0 {o : Option α} {Q : α → DS → Prop} : Ev0 (opt o) s Q = So0 o fun a => Q a s := by
  cases o <;> rfl
theorem ev_var_0 {i : Nat} {Q : D → DS → Prop} : Ev0 (mVar i) s Q = So0 (look s i) fun d => Q d s := by
  unfold Ev0 mVar look
  cases s[i]? with
  | none => rfl
  | some o => cases o <;> rfl
theorem ev_C_0 {d : D} {Q : D → DS → Prop} : Ev0 (mC d) s Q = Q d s := nr rfl
theorem ev_V_0 {m : M D} {Q : BR → DS → Prop} : Ev0 (mV m) s Q = Ev0 m s fun d s' => Q (.val d) s' := ev_bnd_0
theorem ev_slot_0 {i : Nat} {Q : BR → DS → Prop} : Ev0 (mSlot i) s Q = So0 (look s i) fun _ => Q (.slot i) s := by
  unfold Ev0 mSlot look
  cases s[i]? with
  | none => rfl
  | some o => cases o <;> rfl
theorem res_val {d : D} : res s (.val d) = some d := nr rfl
theorem res_slot {i : Nat} : res s (.slot i) = look s i := nr rfl
theorem ev_op_0 {f : D → D → Option D} {a b : M BR} {Q : D → DS → Prop} : Ev0 (mOp f a b) s Q = Ev0 a s fun x s1 => Ev0 b s1 fun y s2 => So0 (res s2 x) fun dx => So0 (res s2 y) fun dy => So0 (f dx dy) fun d => Q d s2 := by
  unfold mOp
  rw [ev_bnd_0]
  refine ev_ext_0 fun x s1 => ?_
  rw [ev_bnd_0]
  refine ev_ext_0 fun y s2 => ?_
  dsimp only [Ev0]
  cases res s2 x with
  | none => rfl
  | some dx =>
    cases res s2 y with
    | none => rfl
    | some dy =>
      dsimp only [So0, opt]
      cases f dx dy <;> rfl
theorem ev_un_0 {f : D → Option D} {a : M BR} {Q : D → DS → Prop} : Ev0 (mUn f a) s Q = Ev0 a s fun x s1 => So0 (res s1 x) fun dx => So0 (f dx) fun d => Q d s1 := by
  unfold mUn
  rw [ev_bnd_0]
  refine ev_ext_0 fun x s1 => ?_
  dsimp only [Ev0]
  cases res s1 x with
  | none => rfl
  | some dx =>
    dsimp only [So0, opt]
    cases f dx <;> rfl
theorem ev_B_0 {m : M D} {Q : Bool → DS → Prop} : Ev0 (mB m) s Q = Ev0 m s fun d s' => So0 (tru d) fun b => Q b s' := by
  unfold mB; rw [ev_bnd_0]; refine ev_ext_0 fun d s' => ?_; exact ev_opt_0
theorem ev_and_0 {a b : M Bool} {Q : Bool → DS → Prop} : Ev0 (mAnd a b) s Q = Ev0 a s fun x s' => if x = true then Ev0 b s' Q else Q false s' := by
  unfold mAnd; rw [ev_bnd_0]; refine ev_ext_0 fun x s' => ?_; cases x <;> rfl
theorem ev_or_0 {a b : M Bool} {Q : Bool → DS → Prop} : Ev0 (mOr a b) s Q = Ev0 a s fun x s' => if x = true then Q true s' else Ev0 b s' Q := by
  unfold mOr; rw [ev_bnd_0]; refine ev_ext_0 fun x s' => ?_; cases x <;> rfl
theorem ev_not_0 {a : M Bool} {Q : Bool → DS → Prop} : Ev0 (mNot a) s Q = Ev0 a s fun x s' => Q (!x) s' := by
  unfold mNot; rw [ev_bnd_0]; rfl
theorem ev_andV_0 {a b : M D} {Q : D → DS → Prop} : Ev0 (mAndV a b) s Q = Ev0 (mB a) s fun x s' => if x = true then Ev0 b s' Q else Q (.bool false) s' := by
  unfold mAndV; rw [ev_bnd_0]; refine ev_ext_0 fun x s' => ?_; cases x <;> rfl
theorem ev_orV_0 {a b : M D} {Q : D → DS → Prop} : Ev0 (mOrV a b) s Q = Ev0 (mB a) s fun x s' => if x = true then Q (.bool true) s' else Ev0 b s' Q := by
  unfold mOrV; rw [ev_bnd_0]; refine ev_ext_0 fun x s' => ?_; cases x <;> rfl
theorem ev_notV_0 {a : M D} {Q : D → DS → Prop} : Ev0 (mNotV a) s Q = Ev0 (mB a) s fun x s' => Q (.bool (!x)) s' := by
  unfold mNotV; rw [ev_bnd_0]; rfl
theorem ev_if_0 {t : M Bool} {a b : M D} {Q : D → DS → Prop} : Ev0 (mIf t a b) s Q = Ev0 t s fun x s' => if x = true then Ev0 a s' Q else Ev0 b s' Q := by
  unfold mIf; rw [ev_bnd_0]; refine ev_ext_0 fun x s' => ?_; cases x <;> rfl
theorem ev_chain_0 {f g : D → D → Option D} {a b c : M D} {Q : D → DS → Prop} : Ev0 (mChain f g a b c) s Q = Ev0 a s fun x s1 => Ev0 b s1 fun y s2 => So0 (f x y) fun z => So0 (tru z) fun k => if k = true then (Ev0 c s2 fun w s3 => So0 (g y w) fun r => Q r s3) else Q (.bool false) s2 := by
  unfold mChain
  rw [ev_bnd_0]; refine ev_ext_0 fun x s1 => ?_
  rw [ev_bnd_0]; refine ev_ext_0 fun y s2 => ?_
  rw [ev_bnd_0, ev_opt_0]
  cases f x y with
  | none => rfl
  | some z =>
    simp only [so_some_0]
    cases z with
    | bool k =>
      cases k with
      | true =>
        simp only [tru, so_some_0, if_true]
        rw [ev_bnd_0]; refine ev_ext_0 fun w s3 => ?_
        exact ev_opt_0
      | false => simp [tru, so_some_0, Ev0]
    | _ => simp [tru, So0, Ev0]
theorem ev_nil_0 {Q : List D → DS → Prop} : Ev0 mNil s Q = Q [] s := nr rfl
theorem ev_cons_0 {a : M D} {r : M (List D)} {Q : List D → DS → Prop} : Ev0 (mCons a r) s Q = Ev0 a s fun x s1 => Ev0 r s1 fun xs s2 => Q (x :: xs) s2 := by
  unfold mCons; rw [ev_bnd_0]; refine ev_ext_0 fun x s1 => ?_; rw [ev_bnd_0]; rfl
theorem ev_nilB_0 {Q : List BR → DS → Prop} : Ev0 mNilB s Q = Q [] s := nr rfl
theorem ev_consB_0 {a : M BR} {r : M (List BR)} {Q : List BR → DS → Prop} : Ev0 (mConsB a r) s Q = Ev0 a s fun x s1 => Ev0 r s1 fun xs s2 => Q (x :: xs) s2 := by
  unfold mConsB; rw [ev_bnd_0]; refine ev_ext_0 fun x s1 => ?_; rw [ev_bnd_0]; rfl
theorem ev_tup_0 {a : M (List D)} {Q : D → DS → Prop} : Ev0 (mTup a) s Q = Ev0 a s fun xs s' => fits xs.length = true ∧ Q (.tuple xs) s' := by
  unfold mTup; rw [ev_bnd_0]; refine ev_ext_0 fun xs s' => ?_; rw [ev_opt_0, so_if_0]; rfl
theorem ev_lst_0 {a : M (List D)} {Q : D → DS → Prop} : Ev0 (mLst a) s Q = Ev0 a s fun xs s' => fits xs.length = true ∧ Q (.list xs) s' := by
  unfold mLst; rw [ev_bnd_0]; refine ev_ext_0 fun xs s' => ?_; rw [ev_opt_0, so_if_0]; rfl
theorem ev_B1_0 {f : List D → Option D} {a : M (List BR)} {Q : D → DS → Prop} : Ev0 (mB1 f a) s Q = Ev0 a s fun xs s' => So0 (xs.mapM (res s')) fun ds => So0 (f ds) fun d => Q d s' := by
  unfold mB1; rw [ev_bnd_0]; refine ev_ext_0 fun xs s' => ?_
  dsimp only [Ev0]
  cases xs.mapM (res s') with
  | none => rfl
  | some ds =>
    dsimp only [So0, opt]
    cases f ds <;> rfl
theorem ev_call_0 {f : FD} {n : Nat} {a : M (List D)} {Q : D → DS → Prop} : Ev0 (mCall f n a) s Q = Ev0 a s fun xs s' => xs.length = n ∧ ∃ d as, f xs = .ok d as ∧ Q d s' := by
  unfold mCall; rw [ev_bnd_0]; refine ev_ext_0 fun xs s' => ?_
  dsimp only [Ev0]
  by_cases h : xs.length = n
  · rw [if_pos h]
    cases f xs with
    | no => simp
    | ex x as => simp
    | ok d as => simp [h]
  · rw [if_neg h]; simp [h]
theorem ev_call1_0 {f : FD} {n j : Nat} {a : M (List D)} {Q : D → DS → Prop} : Ev0 (mCall1 f n j a) s Q = So0 (look s j) fun _ => Ev0 a s fun xs s' => So0 (look s' j) fun e => xs.length = n ∧ ∃ d e' as, f (e :: xs) = .ok d (e' :: as) ∧ Q d (s'.set j (some e')) := by
  unfold mCall1 look
  dsimp only [Ev0]
  cases s[j]? with
  | none => rfl
  | some o =>
    cases o with
    | none => rfl
    | some x =>
      dsimp only [So0, bnd]
      cases a s with
      | no => rfl
      | ok xs s' =>
        dsimp only
        cases s'[j]? with
        | none => rfl
        | some o' =>
          cases o' with
          | none => rfl
          | some e =>
            dsimp only
            by_cases h : xs.length = n
            · rw [if_pos h]
              cases f (e :: xs) with
              | no => simp
              | ex x as => simp
              | ok d as =>
                cases as with
                | nil => simp
                | cons e' as =>
                  refine propext ⟨fun q => ⟨h, d, e', as, rfl, q⟩, fun ⟨_, d1, e1, as1, z, q⟩ => ?_⟩
                  cases z
                  exact q
            · rw [if_neg h]; simp [h]
theorem ev_callT_0 {f : FD} {n : Nat} {m0 : M D} {a : M (List D)} {Q : D → DS → Prop} : Ev0 (mCallT f n m0 a) s Q = Ev0 m0 s fun e s1 => Ev0 a s1 fun xs s' => xs.length = n ∧ ∃ d e' as, f (e :: xs) = .ok d (e' :: as) ∧ Q d s' := by
  unfold mCallT; rw [ev_bnd_0]; refine ev_ext_0 fun e s1 => ?_; rw [ev_bnd_0]; refine ev_ext_0 fun xs s' => ?_
  dsimp only [Ev0]
  by_cases h : xs.length = n
  · rw [if_pos h]
    cases f (e :: xs) with
    | no => simp
    | ex x as => simp
    | ok d as => cases as <;> simp [h]
  · rw [if_neg h]; simp [h]
theorem ev_sl_0 {a : M BR} {lo hi : M (Option Int)} {Q : D → DS → Prop} : Ev0 (mSl a lo hi) s Q = Ev0 a s fun x s1 => Ev0 lo s1 fun l s2 => Ev0 hi s2 fun h s3 => So0 (res s3 x) fun d => So0 (slD d l h) fun r => Q r s3 := by
  unfold mSl; rw [ev_bnd_0]; refine ev_ext_0 fun x s1 => ?_; rw [ev_bnd_0]; refine ev_ext_0 fun l s2 => ?_; rw [ev_bnd_0]; refine ev_ext_0 fun h s3 => ?_
  dsimp only [Ev0]
  cases res s3 x with
  | none => rfl
  | some d =>
    dsimp only [So0, opt]
    cases slD d l h <;> rfl
theorem ev_P0_0 {Q : Option Int → DS → Prop} : Ev0 mP0 s Q = Q none s := nr rfl
def iof : D → Option Int
  | .int i => some i
  | _ => none
theorem ev_P1_0 {m : M D} {Q : Option Int → DS → Prop} : Ev0 (mP1 m) s Q = Ev0 m s fun d s' => So0 (iof d) fun i => Q (some i) s' := by
  unfold mP1; rw [ev_bnd_0]; refine ev_ext_0 fun d s' => ?_; rw [ev_opt_0]; cases d <;> rfl
theorem ev_Rg1_0 {m : M D} {Q : Int × Int → DS → Prop} : Ev0 (mRg1 m) s Q = Ev0 m s fun d s' => So0 (iof d) fun i => Q (0, i) s' := by
  unfold mRg1; rw [ev_bnd_0]; refine ev_ext_0 fun d s' => ?_; rw [ev_opt_0]; cases d <;> rfl
theorem ev_Rg2_0 {m n : M D} {Q : Int × Int → DS → Prop} : Ev0 (mRg2 m n) s Q = Ev0 m s fun d s1 => Ev0 n s1 fun e s' => So0 (iof d) fun i => So0 (iof e) fun j => Q (i, j) s' := by
  unfold mRg2; rw [ev_bnd_0]; refine ev_ext_0 fun d s1 => ?_; rw [ev_bnd_0]; refine ev_ext_0 fun e s' => ?_; rw [ev_opt_0]; cases d <;> cases e <;> rfl
theorem ev_LstRg_0 {m : M (Int × Int)} {Q : D → DS → Prop} : Ev0 (mLstRg m) s Q = Ev0 m s fun p s' => rgC p.1 p.2 = true ∧ Q (.list (rgD p.1 p.2)) s' := by
  unfold mLstRg; rw [ev_bnd_0]; refine ev_ext_0 fun p s' => ?_; rw [ev_opt_0, so_if_0]; rfl
def itD : D → Option (List D)
  | .list xs => some xs
  | .tuple xs => some xs
  | _ => none
theorem ev_It_0 {m : M D} {Q : List D → DS → Prop} : Ev0 (mIt m) s Q = Ev0 m s fun d s' => So0 (itD d) fun xs => Q xs s' := by
  unfold mIt; rw [ev_bnd_0]; refine ev_ext_0 fun d s' => ?_; rw [ev_opt_0]; cases d <;> rfl
def r1D : List D → Option Int
  | [.int j] => some j
  | _ => none
def r2D : List D → Option (Int × Int)
  | [.int i, .int j] => some (i, j)
  | _ => none
theorem ev_R1_0 {m : M (List D)} {Q : List D → DS → Prop} : Ev0 (mR1 m) s Q = Ev0 m s fun d s' => So0 (r1D d) fun j => rngC 0 j = true ∧ Q (rgD 0 j) s' := by
  unfold mR1; rw [ev_bnd_0]; refine ev_ext_0 fun d s' => ?_; rw [ev_opt_0]
  unfold r1D
  split
  · rw [so_if_0]; rfl
  · rename_i hn
    first
    | rfl
    | (split
       · rename_i j; exact absurd rfl (hn j)
       · rfl)
theorem ev_R2_0 {m : M (List D)} {Q : List D → DS → Prop} : Ev0 (mR2 m) s Q = Ev0 m s fun d s' => So0 (r2D d) fun p => rngC p.1 p.2 = true ∧ Q (rgD p.1 p.2) s' := by
  unfold mR2; rw [ev_bnd_0]; refine ev_ext_0 fun d s' => ?_; rw [ev_opt_0]
  unfold r2D
  split
  · rw [so_if_0]; rfl
  · rename_i hn
    first
    | rfl
    | (split
       · rename_i i j; exact absurd rfl (hn i j)
       · rfl)
/-! statements -/
theorem run_nx_0 : Run0 sNx s Nx Rt Bk Ct Ex = Nx s := nr rfl
theorem run_no_0 : Run0 sNo s Nx Rt Bk Ct Ex = False := nr rfl
theorem run_bk_0 : Run0 sBk s Nx Rt Bk Ct Ex = Bk s := nr rfl
theorem run_ct_0 : Run0 sCt s Nx Rt Bk Ct Ex = Ct s := nr rfl
theorem run_seq_0 {a b : MS} : Run0 (sSeq a b) s Nx Rt Bk Ct Ex = Run0 a s (fun s' => Run0 b s' Nx Rt Bk Ct Ex) Rt Bk Ct Ex := by
  unfold Run0 sSeq
  cases a s <;> rfl
theorem run_set_0 {i : Nat} {m : M D} : Run0 (sSet i m) s Nx Rt Bk Ct Ex = Ev0 m s fun d s' => Nx (s'.set i (some d)) := by
  unfold Run0 sSet Ev0
  cases m s <;> rfl
theorem run_drop_0 {m : M D} : Run0 (sDrop m) s Nx Rt Bk Ct Ex = Ev0 m s fun _ s' => Nx s' := by
  unfold Run0 sDrop Ev0
  cases m s <;> rfl
theorem run_ret_0 {m : M D} : Run0 (sRet m) s Nx Rt Bk Ct Ex = Ev0 m s fun d s' => Rt d s' := by
  unfold Run0 sRet Ev0
  cases m s <;> rfl
theorem run_if_0 {t : M Bool} {a b : MS} : Run0 (sIf t a b) s Nx Rt Bk Ct Ex = Ev0 t s fun x s' => if x = true then Run0 a s' Nx Rt Bk Ct Ex else Run0 b s' Nx Rt Bk Ct Ex := by
  unfold sIf Ev0
  show (match (match t s with | .ok true s' => a s' | .ok false s' => b s' | .no => .no) with | .nx s' => Nx s' | .rt d s' => Rt d s' | .bk s' => Bk s' | .ct s' => Ct s' | .ex x s' => Ex x s' | .no => False) = _
  cases t s with
  | no => rfl
  | ok x s' => cases x <;> rfl
theorem run_asg_0 {m : M D} {g : MG} : Run0 (sAsg m g) s Nx Rt Bk Ct Ex = Ev0 m s fun d s' => So0 (g d s') fun s2 => Nx s2 := by
  unfold Run0 sAsg Ev0
  cases m s with
  | no => rfl
  | ok d s' =>
    simp only
    cases g d s' <;> rfl
def lof : D → Option (List D)
  | .list xs => some xs
  | _ => none
theorem run_app_0 {i : Nat} {m : M D} : Run0 (sApp i m) s Nx Rt Bk Ct Ex = So0 (look s i) fun d0 => So0 (lof d0) fun _ => Ev0 m s fun d s' => So0 (look s' i) fun d1 => So0 (lof d1) fun xs => decide (xs.length < sizeLine) = true ∧ Nx (s'.set i (some (.list (xs ++ [d])))) := by
  unfold Run0 sApp look Ev0
  cases h : s[i]? with
  | none => rfl
  | some o =>
    cases o with
    | none => rfl
    | some d0 =>
      cases d0 <;> try rfl
      simp only [so_some_0, lof]
      cases m s with
      | no => rfl
      | ok d s' =>
        simp only
        cases h' : s'[i]? with
        | none => rfl
        | some o' =>
          cases o' with
          | none => rfl
          | some d1 =>
            cases d1 <;> try rfl
            rename_i xs
            simp only [so_some_0, lof]
            by_cases hz : xs.length < sizeLine
            · simp [hz]
            · simp [hz]
theorem run_put_0 {i : Nat} {me m : M D} : Run0 (sPut i me m) s Nx Rt Bk Ct Ex = Ev0 m s fun d s1 => So0 (look s1 i) fun d0 => So0 (lof d0) fun _ => Ev0 me s1 fun k s2 => So0 (iof k) fun z => So0 (look s2 i) fun d1 => So0 (lof d1) fun xs => So0 (ixN xs.length z) fun j => Nx (s2.set i (some (.list (xs.set j d)))) := by
  unfold Run0 sPut look Ev0
  cases m s with
  | no => rfl
  | ok d s1 =>
    simp only
    cases h : s1[i]? with
    | none => rfl
    | some o =>
      cases o with
      | none => rfl
      | some d0 =>
        cases d0 <;> try rfl
        simp only [so_some_0, lof]
        cases me s1 with
        | no => rfl
        | ok k s2 =>
          simp only
          cases k <;> try rfl
          simp only [so_some_0, iof]
          cases h' : s2[i]? with
          | none => rfl
          | some o' =>
            cases o' with
            | none => rfl
            | some d1 =>
              cases d1 <;> try rfl
              rename_i z xs
              simp only [so_some_0, lof]
              cases ixN xs.length z <;> rfl
theorem run_aug_0 {i : Nat} {f : D → D → Option D} {m : M D} : Run0 (sAug i f m) s Nx Rt Bk Ct Ex = So0 (look s i) fun x => Ev0 m s fun y s' => So0 (f x y) fun z => Nx (s'.set i (some z)) := by
  unfold Run0 sAug look Ev0
  cases h : s[i]? with
  | none => rfl
  | some o =>
    cases o with
    | none => rfl
    | some x =>
      simp only [so_some_0]
      cases m s with
      | no => rfl
      | ok y s' =>
        simp only
        cases f x y <;> rfl
theorem run_frz_0 {i : Nat} {b : MS} : Run0 (sFrz i b) s Nx Rt Bk Ct Ex = So0 (look s i) fun _ => Run0 b s Nx Rt Bk Ct Ex := by
  unfold look
  dsimp only [Run0, sFrz]
  cases h : s[i]? with
  | none => rfl
  | some o => cases o <;> rfl
theorem run_kill_0 {i : Nat} {b : MS} : Run0 (sKill i b) s Nx Rt Bk Ct Ex = Run0 b (s.set i none) Nx Rt Bk Ct Ex := nr rfl
/-- a for by its invariant: by the items taken and the slots -/
theorem run_for_0 {mi : M (List D)} {g : MG} {b : MS} {xs : List D} {s' : DS} (I : Nat → DS → Prop) (h : mi s = .ok xs s') (h0 : I 0 s')
    (ht : ∀ i d s1, xs[i]? = some d → I i s1 → So0 (g d s1) fun s2 => Run0 b s2 (I (i + 1)) Rt Nx (I (i + 1)) Ex) (he : ∀ s1, I xs.length s1 → Nx s1) : Run0 (sFor mi g b) s Nx Rt Bk Ct Ex := by
  unfold Run0 sFor
  rw [h]
  have key : ∀ (n : Nat) (i : Nat) (s1 : DS), n + i = xs.length → I i s1 → Run0 (loop g b (xs.drop i)) s1 Nx Rt Bk Ct Ex := fun n => by
    induction n with
    | zero =>
      intro i s1 hn hI
      have : i = xs.length := by omega
      subst this
      rw [List.drop_of_length_le (Nat.le_refl _)]
      exact he s1 hI
    | succ n ih =>
      intro i s1 hn hI
      have hlt : i < xs.length := by omega
      have hd : xs.drop i = xs[i] :: xs.drop (i + 1) := List.drop_eq_getElem_cons hlt
      rw [hd]
      have t := ht i xs[i] s1 (List.getElem?_eq_getElem hlt) hI
      unfold Run0 loop
      cases hg : g xs[i] s1 with
      | none => rw [hg] at t; exact t
      | some s2 =>
        rw [hg] at t
        simp only [So0] at t
        unfold Run0 at t
        dsimp only
        cases hb : b s2 with
        | nx s3 => rw [hb] at t; exact ih (i + 1) s3 (by omega) t
        | ct s3 => rw [hb] at t; exact ih (i + 1) s3 (by omega) t
        | bk s3 => rw [hb] at t; exact t
        | rt d s3 => rw [hb] at t; exact t
        | ex x s3 => rw [hb] at t; exact t
        | no => rw [hb] at t; exact t
  exact key xs.length 0 s' (by omega) h0
/-- for, the items' expression read by Ev0 -/
theorem run_forE_0 {mi : M (List D)} {g : MG} {b : MS} (h : Ev0 mi s fun xs s' => ∃ I : Nat → DS → Prop, I 0 s' ∧ (∀ i d s1, xs[i]? = some d → I i s1 → So0 (g d s1) fun s2 => Run0 b s2 (I (i + 1)) Rt Nx (I (i + 1)) Ex) ∧ ∀ s1, I xs.length s1 → Nx s1) : Run0 (sFor mi g b) s Nx Rt Bk Ct Ex := by
  unfold Ev0 at h
  split at h
  · rename_i xs s' e
    obtain ⟨I, h0, ht, he⟩ := h
    exact run_for_0 I e h0 ht he
  · exact h.elim
/-- while, by an invariant and a measure -/
theorem run_while_0 {t : M Bool} {b : MS} (I : DS → Prop) (μ : DS → Nat) (h0 : I s)
    (ht : ∀ s1, I s1 → Ev0 t s1 fun x s2 => if x = true then Run0 b s2 (fun s3 => I s3 ∧ μ s3 < μ s1) Rt Nx (fun s3 => I s3 ∧ μ s3 < μ s1) Ex else Nx s2) : Run0 (sWhile t b) s Nx Rt Bk Ct Ex := by
  have key : ∀ (n : Nat) (s1 : DS), μ s1 < n → I s1 → ∃ r, wl t b n s1 = r ∧ r ≠ .no ∧ (match r with | .nx s' => Nx s' | .rt d s' => Rt d s' | .ex x s' => Ex x s' | _ => False) := fun n => by
    induction n with
    | zero => intro s1 h; omega
    | succ n ih =>
      intro s1 hm hI
      have h := ht s1 hI
      unfold Ev0 at h
      unfold wl
      cases e : t s1 with
      | no => rw [e] at h; exact h.elim
      | ok x s2 =>
        rw [e] at h
        cases x with
        | false => exact ⟨_, rfl, (fun z => nomatch z), h⟩
        | true =>
          simp only [if_true] at h
          unfold Run0 at h
          dsimp only
          cases eb : b s2 with
          | nx s3 => rw [eb] at h; exact ih s3 (by omega) h.1
          | ct s3 => rw [eb] at h; exact ih s3 (by omega) h.1
          | bk s3 => rw [eb] at h; exact ⟨_, rfl, (fun z => nomatch z), h⟩
          | rt d s3 => rw [eb] at h; exact ⟨_, rfl, (fun z => nomatch z), h⟩
          | ex x s3 => rw [eb] at h; exact ⟨_, rfl, (fun z => nomatch z), h⟩
          | no => rw [eb] at h; exact h.elim
  obtain ⟨r, e, hr, q⟩ := key (μ s + 1) s (by omega) h0
  have e2 := sWhile_of (μ s + 1) e hr
  unfold Run0
  rw [e2]
  cases r with
  | nx s' => exact q
  | rt d s' => exact q
  | ex x s' => exact q
  | bk s' => exact q.elim
  | ct s' => exact q.elim
  | no => exact q.elim
/-- a def's meaning, by its body -/
theorem fn_run_0 {N n : Nat} {rk : Kd} {b : MS} {args : List D} {Q : D → List D → Prop} (hl : args.length = n) (h : Run0 b (entry N args) (fun s => rk = .sh ∧ So0 ((List.range n).mapM (look s)) fun as => Q .none as) (fun d s => So0 ((List.range n).mapM (look s)) fun as => Q d as) (fun _ => False) (fun _ => False) (fun _ _ => False)) :
    ∃ d as, fnD N n rk b args = .ok d as ∧ Q d as := by
  unfold Run0 at h
  unfold fnD
  rw [if_pos hl]
  split at h
  · rename_i s e
    rw [e]
    simp only [h.1, if_true]
    obtain ⟨_, h⟩ := h
    unfold leave
    cases z : (List.range n).mapM (look s) with
    | none => rw [z] at h; exact h.elim
    | some as => rw [z] at h; exact ⟨_, _, rfl, h⟩
  · rename_i d s e
    rw [e]
    dsimp only
    unfold leave
    cases z : (List.range n).mapM (look s) with
    | none => rw [z] at h; exact h.elim
    | some as => rw [z] at h; exact ⟨_, _, rfl, h⟩
  · exact h.elim
  · exact h.elim
  · exact h.elim
  · exact h.elim
theorem ev_mono_0 {m : M α} {Q Q' : α → DS → Prop} (h : Ev0 m s Q) (f : ∀ a s', Q a s' → Q' a s') : Ev0 m s Q' := by
  unfold Ev0 at h ⊢
  cases e : m s with
  | no => rw [e] at h; exact h
  | ok a s' => rw [e] at h; exact f _ _ h
theorem run_mono_0 {b : MS} {Nx' Bk' Ct' : DS → Prop} {Ex' : Xc → DS → Prop} {Rt' : D → DS → Prop} (h : Run0 b s Nx Rt Bk Ct Ex) (f1 : ∀ s', Nx s' → Nx' s') (f2 : ∀ d s', Rt d s' → Rt' d s') (f3 : ∀ s', Bk s' → Bk' s') (f4 : ∀ s', Ct s' → Ct' s') (f5 : ∀ x s', Ex x s' → Ex' x s') : Run0 b s Nx' Rt' Bk' Ct' Ex' := by
  unfold Run0 at h ⊢
  cases e : b s with
  | nx s' => rw [e] at h; exact f1 _ h
  | rt d s' => rw [e] at h; exact f2 _ _ h
  | bk s' => rw [e] at h; exact f3 _ h
  | ct s' => rw [e] at h; exact f4 _ h
  | ex x s' => rw [e] at h; exact f5 _ _ h
  | no => rw [e] at h; exact h
end
end Z
set_option Elab.async false
set_option linter.all false
set_option maxRecDepth 100000
namespace Z
open PySem L2
/-! ### the meaning run by simp: ways and calls stand still until they are asked -/
def Br0 (x : Bool) (A B : Prop) (_ : W2 A B := Unit.unit) : Prop := if x = true then A else B
theorem br_t_0 {A B : Prop} : Br0 true A B = A := nr rfl
theorem br_f_0 {A B : Prop} : Br0 false A B = B := by unfold Br0; simp
theorem br_i_0 {x : Bool} {A B : Prop} (h1 : x = true → A) (h2 : x = false → B) : Br0 x A B := by
  cases x with
  | true => exact h1 rfl
  | false => rw [br_f_0]; exact h2 rfl
theorem br_d_0 {p : Prop} [Decidable p] {A B : Prop} (h1 : p → A) (h2 : ¬ p → B) : Br0 (decide p) A B := br_i_0 (fun h => h1 (of_decide_eq_true h)) fun h => h2 (of_decide_eq_false h)
theorem br_y_0 {p : Prop} [Decidable p] {A B : Prop} (h : p) (h1 : A) : Br0 (decide p) A B := br_d_0 (fun _ => h1) fun z => absurd h z
theorem br_n_0 {p : Prop} [Decidable p] {A B : Prop} (h : ¬ p) (h1 : B) : Br0 (decide p) A B := br_d_0 (fun z => absurd z h) fun _ => h1
def Cl0 (f : FD) (xs : List D) (Q : D → List D → Prop) (_ : W2 f Q := Unit.unit) : Prop := ∃ d as, f xs = .ok d as ∧ Q d as
theorem Cl0.of_0 {f : FD} {xs : List D} {Q : D → List D → Prop} {d : D} {as : List D} (h : f xs = .ok d as) (q : Q d as) : Cl0 f xs Q := ⟨d, as, h, q⟩
theorem Cl0.mono_0 {f : FD} {xs : List D} {Q Q' : D → List D → Prop} (h : Cl0 f xs Q) (g : ∀ d as, Q d as → Q' d as) : Cl0 f xs Q' := by
  obtain ⟨d, as, e, q⟩ := h
  exact ⟨d, as, e, g d as q⟩
section
variable {s : DS} {Nx : DS → Prop} {Rt : D → DS → Prop} {Bk Ct : DS → Prop} {Ex : Xc → DS → Prop}
theorem fn_cl_0 {N n : Nat} {rk : Kd} {b : MS} {args : List D} {Q : D → List D → Prop} (hl : args.length = n) (h : Run0 b (entry N args) (fun s => rk = .sh ∧ So0 ((List.range n).mapM (look s)) fun as => Q .none as) (fun d s => So0 ((List.range n).mapM (look s)) fun as => Q d as) (fun _ => False) (fun _ => False) (fun _ _ => False)) :
    Cl0 (fnD N n rk b) args Q := fn_run_0 hl h
theorem lk0 {x : Option D} : look (x :: s) 0 = x := by cases x <;> rfl
theorem lkS {x : Option D} {n : Nat} : look (x :: s) (n + 1) = look s n := nr rfl
theorem st0 {x y : Option D} : List.set (x :: s) 0 y = y :: s := nr rfl
theorem stS {x y : Option D} {n : Nat} : List.set (x :: s) (n + 1) y = x :: List.set s n y := nr rfl
theorem entry0 {N : Nat} : entry N [] = List.replicate N none := by simp [entry]
theorem entryS {N : Nat} {a : D} {l : List D} : entry (N + 1) (a :: l) = some a :: entry N l := by simp [entry]
theorem rep0 : List.replicate 0 (none : Option D) = [] := nr rfl
theorem repS {n : Nat} : List.replicate (n + 1) (none : Option D) = none :: List.replicate n none := nr rfl
theorem so_bind_0 {α β : Type} {o : Option α} {f : α → Option β} {Q : β → Prop} : So0 (o >>= f) Q = So0 o fun a => So0 (f a) Q := by cases o <;> rfl
theorem so_pure_0 {α : Type} {a : α} {Q : α → Prop} : So0 (pure a) Q = Q a := nr rfl
theorem so_mapN_0 {α β : Type} {f : α → Option β} {Q : List β → Prop} : So0 (List.mapM f []) Q = Q [] := nr rfl
theorem so_mapC_0 {α β : Type} {f : α → Option β} {x : α} {l : List α} {Q : List β → Prop} : So0 (List.mapM f (x :: l)) Q = So0 (f x) fun a => So0 (List.mapM f l) fun as => Q (a :: as) := by
  rw [List.mapM_cons, so_bind_0]
  refine so_ext_0 fun a => ?_
  rw [so_bind_0]
  congr 1
theorem lks_eq_0 {n : Nat} {Q : List D → Prop} : So0 ((List.range n).mapM (look s)) Q = So0 ((List.range' 0 n).mapM (look s)) Q := by rw [List.range_eq_range']
theorem rg_z {a : Nat} : List.range' a 0 = [] := nr rfl
theorem rg_s {a n : Nat} : List.range' a (n + 1) = a :: List.range' (a + 1) n := nr rfl
/-! ways -/
theorem xv_and_0 {a b : M Bool} {Q : Bool → DS → Prop} : Ev0 (mAnd a b) s Q = Ev0 a s fun x s' => Br0 x (Ev0 b s' Q) (Q false s') := ev_and_0
theorem xv_or_0 {a b : M Bool} {Q : Bool → DS → Prop} : Ev0 (mOr a b) s Q = Ev0 a s fun x s' => Br0 x (Q true s') (Ev0 b s' Q) := ev_or_0
theorem xv_andV_0 {a b : M D} {Q : D → DS → Prop} : Ev0 (mAndV a b) s Q = Ev0 (mB a) s fun x s' => Br0 x (Ev0 b s' Q) (Q (.bool false) s') := ev_andV_0
theorem xv_orV_0 {a b : M D} {Q : D → DS → Prop} : Ev0 (mOrV a b) s Q = Ev0 (mB a) s fun x s' => Br0 x (Q (.bool true) s') (Ev0 b s' Q) := ev_orV_0
theorem xv_if_0 {t : M Bool} {a b : M D} {Q : D → DS → Prop} : Ev0 (mIf t a b) s Q = Ev0 t s fun x s' => Br0 x (Ev0 a s' Q) (Ev0 b s' Q) := ev_if_0
theorem xv_chain_0 {f g : D → D → Option D} {a b c : M D} {Q : D → DS → Prop} : Ev0 (mChain f g a b c) s Q = Ev0 a s fun x s1 => Ev0 b s1 fun y s2 => So0 (f x y) fun z => So0 (tru z) fun k => Br0 k (Ev0 c s2 fun w s3 => So0 (g y w) fun r => Q r s3) (Q (.bool false) s2) := ev_chain_0
theorem xr_if_0 {t : M Bool} {a b : MS} : Run0 (sIf t a b) s Nx Rt Bk Ct Ex = Ev0 t s fun x s' => Br0 x (Run0 a s' Nx Rt Bk Ct Ex) (Run0 b s' Nx Rt Bk Ct Ex) := run_if_0
theorem xv_call_0 {f : FD} {n : Nat} {a : M (List D)} {Q : D → DS → Prop} : Ev0 (mCall f n a) s Q = Ev0 a s fun xs s' => xs.length = n ∧ Cl0 f xs fun d _ => Q d s' := by
  rw [ev_call_0]; rfl
def hdO (as : List D) : Option D := as.head?
theorem xv_call1_0 {f : FD} {n j : Nat} {a : M (List D)} {Q : D → DS → Prop} : Ev0 (mCall1 f n j a) s Q = So0 (look s j) fun _ => Ev0 a s fun xs s' => So0 (look s' j) fun e => xs.length = n ∧ Cl0 f (e :: xs) fun d as => So0 (hdO as) fun e' => Q d (s'.set j (some e')) := by
  rw [ev_call1_0]
  refine so_ext_0 fun _ => ?_
  refine ev_ext_0 fun xs s' => ?_
  refine so_ext_0 fun e => ?_
  refine congrArg _ (propext ⟨fun ⟨d, e', as, h, q⟩ => ⟨d, _, h, q⟩, fun ⟨d, as, h, q⟩ => ?_⟩)
  cases as with
  | nil => exact q.elim
  | cons e' as => exact ⟨d, e', as, h, q⟩
theorem xv_callT_0 {f : FD} {n : Nat} {m0 : M D} {a : M (List D)} {Q : D → DS → Prop} : Ev0 (mCallT f n m0 a) s Q = Ev0 m0 s fun e s1 => Ev0 a s1 fun xs s' => xs.length = n ∧ Cl0 f (e :: xs) fun d as => So0 (hdO as) fun _ => Q d s' := by
  rw [ev_callT_0]
  refine ev_ext_0 fun e s1 => ?_
  refine ev_ext_0 fun xs s' => ?_
  refine congrArg _ (propext ⟨fun ⟨d, e', as, h, q⟩ => ⟨d, _, h, q⟩, fun ⟨d, as, h, q⟩ => ?_⟩)
  cases as with
  | nil => exact q.elim
  | cons e' as => exact ⟨d, e', as, h, q⟩
theorem hdC_0 {a : D} {as : List D} {Q : D → Prop} : So0 (hdO (a :: as)) Q = Q a := nr rfl
/-! operations -/
variable {i j : Int} {Q : D → Prop}
theorem so_add_0 : So0 (addD (.int i) (.int j)) Q = Q (.int (i + j)) := nr rfl
theorem so_sub_0 : So0 (subI (.int i) (.int j)) Q = Q (.int (i - j)) := nr rfl
theorem so_addN_0 : So0 (addN (.int i) (.int j)) Q = Q (.int (i + j)) := nr rfl
theorem so_subN_0 : So0 (subN (.int i) (.int j)) Q = Q (.int (i - j)) := nr rfl
theorem so_mul_0 : So0 (mulI (.int i) (.int j)) Q = (mulC i j = true ∧ Q (.int (i * j))) := so_if_0
theorem so_div_0 : So0 (divI (.int i) (.int j)) Q = (divC i j = true ∧ Q (.int (i / j))) := so_if_0
theorem so_mod_0 : So0 (modI (.int i) (.int j)) Q = (modC i j = true ∧ Q (.int (i % j))) := so_if_0
theorem so_pow_0 : So0 (powI (.int i) (.int j)) Q = (powC i j = true ∧ Q (.int (i ^ j.toNat))) := so_if_0
theorem so_shl_0 : So0 (shlI (.int i) (.int j)) Q = (shlC i j = true ∧ Q (.int (i * 2 ^ j.toNat))) := so_if_0
theorem so_shr_0 : So0 (shrI (.int i) (.int j)) Q = (shrC i j = true ∧ Q (.int (i / 2 ^ j.toNat))) := so_if_0
theorem so_and_0 : So0 (andI (.int i) (.int j)) Q = Q (.int (Builtin.bitAnd i j)) := nr rfl
theorem so_or_0 : So0 (orI (.int i) (.int j)) Q = Q (.int (Builtin.bitOr i j)) := nr rfl
theorem so_xor_0 : So0 (xorI (.int i) (.int j)) Q = Q (.int (Builtin.bitXor i j)) := nr rfl
theorem so_lt_0 : So0 (ltI (.int i) (.int j)) Q = Q (.bool (decide (i < j))) := nr rfl
theorem so_le_0 : So0 (leI (.int i) (.int j)) Q = Q (.bool (decide (i ≤ j))) := nr rfl
theorem so_gt_0 : So0 (gtI (.int i) (.int j)) Q = Q (.bool (decide (j < i))) := nr rfl
theorem so_ge_0 : So0 (geI (.int i) (.int j)) Q = Q (.bool (decide (j ≤ i))) := nr rfl
theorem so_eqI_0 : So0 (eqD (.int i) (.int j)) Q = Q (.bool (decide (i = j))) := nr rfl
theorem so_neI_0 : So0 (neD (.int i) (.int j)) Q = Q (.bool (!decide (i = j))) := nr rfl
theorem so_neg_0 : So0 (negI (.int i)) Q = Q (.int (-i)) := nr rfl
theorem so_isN_0 {d : D} : So0 (isN d .none) Q = Q (.bool (nonB d)) := nr rfl
theorem so_notN_0 {d : D} : So0 (notN d .none) Q = Q (.bool (!nonB d)) := nr rfl
theorem non_n : nonB .none = true := nr rfl
theorem non_i : nonB (.int i) = false := nr rfl
theorem non_t {l : List D} : nonB (.tuple l) = false := nr rfl
theorem non_l {l : List D} : nonB (.list l) = false := nr rfl
theorem non_b {b : Bool} : nonB (.bool b) = false := nr rfl
theorem non_s {b : Str} : nonB (.str b) = false := nr rfl
theorem so_ixL_0 {l : List D} : So0 (ixD (.list l) (.int i)) Q = So0 (atI l i) Q := nr rfl
theorem so_ixT_0 {l : List D} : So0 (ixD (.tuple l) (.int i)) Q = So0 (atI l i) Q := nr rfl
theorem at0 {α : Type} {a : α} {l : List α} : atI (a :: l) 0 = some a := by
  unfold atI ixN; simp
theorem ixN_ofNat {n : Nat} {k : Nat} (h : k < n) : ixN n (k : Int) = some k := by
  unfold ixN
  rw [if_pos (by omega), if_pos (by omega)]
  simp
theorem at1 {α : Type} {a b : α} {l : List α} : atI (a :: b :: l) 1 = some b := by
  have : ixN (a :: b :: l).length ((1 : Nat) : Int) = some 1 := ixN_ofNat (by simp)
  unfold atI; erw [this]; rfl
theorem at2 {α : Type} {a b c : α} {l : List α} : atI (a :: b :: c :: l) 2 = some c := by
  have : ixN (a :: b :: c :: l).length ((2 : Nat) : Int) = some 2 := ixN_ofNat (by simp)
  unfold atI; erw [this]; rfl
theorem at3 {α : Type} {a b c d : α} {l : List α} : atI (a :: b :: c :: d :: l) 3 = some d := by
  have : ixN (a :: b :: c :: d :: l).length ((3 : Nat) : Int) = some 3 := ixN_ofNat (by simp)
  unfold atI; erw [this]; rfl
theorem at_nat {α : Type} {l : List α} {i : Int} {v : α} (h0 : 0 ≤ i) (h : l[i.toNat]? = some v) : atI l i = some v := by
  have := atI_nat h
  rwa [Int.toNat_of_nonneg h0] at this
theorem so_at_0 {l : List D} {i : Int} {Q : D → Prop} (h0 : 0 ≤ i) (h1 : i < l.length) (h : ∀ v, l[i.toNat]? = some v → Q v) : So0 (atI l i) Q := by
  have hlt : i.toNat < l.length := by omega
  have e : l[i.toNat]? = some l[i.toNat] := List.getElem?_eq_getElem hlt
  rw [at_nat h0 e]
  exact h _ e
theorem ixN30 : ixN 3 0 = some 0 := by decide
theorem ixN31 : ixN 3 1 = some 1 := by decide
theorem ixN32 : ixN 3 2 = some 2 := by decide
theorem ix0_0 {α : Type} {a : α} {l : List α} {Q : Nat → Prop} : So0 (ixN (a :: l).length 0) Q = Q 0 := by
  have : ixN (a :: l).length ((0 : Nat) : Int) = some 0 := ixN_ofNat (by simp)
  erw [this]; rfl
theorem ix1_0 {α : Type} {a b : α} {l : List α} {Q : Nat → Prop} : So0 (ixN (a :: b :: l).length 1) Q = Q 1 := by
  have : ixN (a :: b :: l).length ((1 : Nat) : Int) = some 1 := ixN_ofNat (by simp)
  erw [this]; rfl
theorem ix2_0 {α : Type} {a b c : α} {l : List α} {Q : Nat → Prop} : So0 (ixN (a :: b :: c :: l).length 2) Q = Q 2 := by
  have : ixN (a :: b :: c :: l).length ((2 : Nat) : Int) = some 2 := ixN_ofNat (by simp)
  erw [this]; rfl
theorem so_ixN_0 {n : Nat} {i : Int} {Q : Nat → Prop} (h0 : 0 ≤ i) (h1 : i < n) (h : Q i.toNat) : So0 (ixN n i) Q := by
  have : ixN n ((i.toNat : Nat) : Int) = some i.toNat := ixN_ofNat (by omega)
  rw [Int.toNat_of_nonneg h0] at this
  rw [this]; exact h
theorem so_tru_0 {b : Bool} {Q : Bool → Prop} : So0 (tru (.bool b)) Q = Q b := nr rfl
theorem so_iof_0 {Q : Int → Prop} : So0 (iof (.int i)) Q = Q i := nr rfl
theorem so_lof_0 {l : List D} {Q : List D → Prop} : So0 (lof (.list l)) Q = Q l := nr rfl
theorem so_itL_0 {l : List D} {Q : List D → Prop} : So0 (itD (.list l)) Q = Q l := nr rfl
theorem so_itT_0 {l : List D} {Q : List D → Prop} : So0 (itD (.tuple l)) Q = Q l := nr rfl
theorem so_r1_0 {Q : Int → Prop} : So0 (r1D [.int i]) Q = Q i := nr rfl
theorem so_r2_0 {Q : Int × Int → Prop} : So0 (r2D [.int i, .int j]) Q = Q (i, j) := nr rfl
theorem so_abs_0 : So0 (absD [.int i]) Q = Q (.int (if i < 0 then -i else i)) := nr rfl
theorem so_max_0 : So0 (maxD [.int i, .int j]) Q = Q (.int (if j > i then j else i)) := nr rfl
theorem so_min_0 : So0 (minD [.int i, .int j]) Q = Q (.int (if j < i then j else i)) := nr rfl
theorem so_intB_0 {b : Bool} : So0 (intD [.bool b]) Q = Q (.int (if b then 1 else 0)) := nr rfl
theorem so_intI_0 : So0 (intD [.int i]) Q = Q (.int i) := nr rfl
theorem ii_i : isiB "int" (.int i) = true := nr rfl
theorem ib_i : isiB "bool" (.int i) = false := nr rfl
theorem ib_b {b : Bool} : isiB "bool" (.bool b) = true := nr rfl
theorem ii_b {b : Bool} : isiB "int" (.bool b) = true := nr rfl
theorem it_t {l : List D} : isiB "tuple" (.tuple l) = true := nr rfl
theorem it_l {l : List D} : isiB "tuple" (.list l) = false := nr rfl
theorem il_l {l : List D} : isiB "list" (.list l) = true := nr rfl
theorem il_t {l : List D} : isiB "list" (.tuple l) = false := nr rfl
/-! sizes -/
theorem modC_eq : (modC i j = true) = (0 < j) := by unfold modC; simp
theorem divC_any {k : Int} (h : divC 0 j = true) : divC k j = true := by unfold divC at h ⊢; exact h
theorem divC_pos (h : divC i j = true) : 0 < j := by unfold divC at h; exact (of_decide_eq_true h : 0 < j ∧ j.natAbs.log2 < 9000).1
theorem shrC_eq : (shrC i j = true) = (0 ≤ j) := by unfold shrC; simp
theorem powC_eq : (powC i j = true) = (0 ≤ j ∧ j ≤ 1000000 ∧ i.natAbs < 18446744073709551616) := by unfold powC; simp
theorem bits_le {x : Int} {n : Nat} (h : x.natAbs < 2 ^ n) : Builtin.Int.intBits x ≤ n := by
  unfold Builtin.Int.intBits
  split
  · omega
  · rename_i hx
    have : x.natAbs ≠ 0 := by
      intro z
      exact hx (by simpa using z)
    have := (Nat.log2_lt this).mpr h
    omega
theorem mulC_of {m n : Nat} (hi : i.natAbs < 2 ^ m) (hj : j.natAbs < 2 ^ n) (h : m + n ≤ 134217728 := by decide) : mulC i j = true := by
  have := bits_le hi
  have := bits_le hj
  unfold mulC
  exact decide_eq_true (by omega)
theorem divC_of {n : Nat} (h0 : 0 < j) (hj : j.natAbs < 2 ^ n) (h : n ≤ 9000 := by decide) : divC i j = true := by
  unfold divC
  refine decide_eq_true ⟨h0, ?_⟩
  have := (Nat.log2_lt (by omega : j.natAbs ≠ 0)).mpr hj
  omega
theorem shlC_of {m : Nat} (h0 : 0 ≤ j) (hi : i.natAbs < 2 ^ m) (h : (m : Int) + j ≤ 134217728) : shlC i j = true := by
  have := bits_le hi
  unfold shlC
  exact decide_eq_true ⟨h0, by omega⟩
theorem fits_eq {n : Nat} : (fits n = true) = (n ≤ 16777216) := by unfold fits sizeLine; simp
theorem fits0 : (fits 0 = true) = True := nr (by decide)
theorem fits1 : (fits 1 = true) = True := nr (by decide)
theorem fits2 : (fits 2 = true) = True := nr (by decide)
theorem fits3 : (fits 3 = true) = True := nr (by decide)
theorem fits4 : (fits 4 = true) = True := nr (by decide)
theorem fits5 : (fits 5 = true) = True := nr (by decide)
theorem fits6 : (fits 6 = true) = True := nr (by decide)
theorem fits7 : (fits 7 = true) = True := nr (by decide)
theorem fits8 : (fits 8 = true) = True := nr (by decide)
theorem fits9 : (fits 9 = true) = True := nr (by decide)
theorem fits10 : (fits 10 = true) = True := nr (by decide)
theorem fits11 : (fits 11 = true) = True := nr (by decide)
theorem fits12 : (fits 12 = true) = True := nr (by decide)
theorem fits13 : (fits 13 = true) = True := nr (by decide)
theorem fits14 : (fits 14 = true) = True := nr (by decide)
theorem fits15 : (fits 15 = true) = True := nr (by decide)
theorem fits16 : (fits 16 = true) = True := nr (by decide)
theorem rngC_eq : (rngC i j = true) = (-(2 ^ 62) ≤ i ∧ i < 2 ^ 62 ∧ -(2 ^ 62) ≤ j ∧ j < 2 ^ 62) := by unfold rngC; simp
theorem rgC_eq : (rgC i j = true) = (-(2 ^ 62) ≤ i ∧ i < 2 ^ 62 ∧ -(2 ^ 62) ≤ j ∧ j < 2 ^ 62 ∧ (j - i).toNat ≤ 2 ^ 24) := by unfold rgC; simp
/-- xs + ys -/
theorem so_cat_0 {l k : List D} : So0 (addD (.list l) (.list k)) Q = (fits (l.length + k.length) = true ∧ Q (.list (l ++ k))) := by
  show So0 (if fits (l.length + k.length) then some (PyData.list (l ++ k)) else none) Q = _
  exact so_if_0
end
end Z
set_option Elab.async false
set_option linter.all false
set_option maxRecDepth 100000
namespace Z
open PySem L2
section
variable {s : DS} {Nx : DS → Prop} {Rt : D → DS → Prop} {Bk Ct : DS → Prop} {Ex : Xc → DS → Prop} {Q : DS → Prop}
theorem so_gN_0 {i : Nat} {d : D} : So0 (gN i d s) Q = Q (s.set i (some d)) := nr rfl
theorem so_gT_0 {n : Nat} {g : List D → DS → Option DS} {xs : List D} : So0 (gT n g (.tuple xs) s) Q = (xs.length = n ∧ So0 (g xs s) Q) := so_dec_0
theorem so_gL_0 {n : Nat} {g : List D → DS → Option DS} {xs : List D} : So0 (gL n g (.list xs) s) Q = (xs.length = n ∧ So0 (g xs s) Q) := so_dec_0
theorem so_gC_0 {a : MG} {r : List D → DS → Option DS} {x : D} {ys : List D} : So0 (gC a r (x :: ys) s) Q = So0 (a x s) fun s' => So0 (r ys s') Q := by
  show So0 (match a x s with | some s' => r ys s' | none => none) Q = _
  cases a x s <;> rfl
theorem so_gE_0 : So0 (gE [] s) Q = Q s := nr rfl
/-- a for behind its expression -/
def Fo0 (xs : List D) (s : DS) (g : MG) (b : MS) (Nx : DS → Prop) (Rt : D → DS → Prop) (Bk Ct : DS → Prop) (Ex : Xc → DS → Prop) (_ : W5 g b Nx Rt (Bk, Ct, Ex) := Unit.unit) : Prop := Run0 (loop g b xs) s Nx Rt Bk Ct Ex
theorem run_fo_0 {mi : M (List D)} {g : MG} {b : MS} : Run0 (sFor mi g b) s Nx Rt Bk Ct Ex = Ev0 mi s fun xs s' => Fo0 xs s' g b Nx Rt Bk Ct Ex := by
  unfold Run0 sFor Ev0 Fo0 Run0
  cases mi s <;> rfl
theorem for_it_0 {g : MG} {b : MS} {xs : List D} (I : Nat → DS → Prop) (h0 : I 0 s)
    (ht : ∀ (i : Nat) (d : D) (s1 : DS), xs[i]? = some d → I i s1 → So0 (g d s1) fun s2 => Run0 b s2 (I (i + 1)) Rt Nx (I (i + 1)) Ex) (he : ∀ s1, I xs.length s1 → Nx s1) :
    Fo0 xs s g b Nx Rt Bk Ct Ex := by
  have h := run_for_0 (mi := fun s => R.ok xs s) (Bk := Bk) (Ct := Ct) (Ex := Ex) I rfl h0 ht he
  unfold Fo0
  exact h
theorem for_rg_0 {g : MG} {b : MS} {a c : Int} (I : Nat → DS → Prop) (h0 : I 0 s)
    (ht : ∀ (i : Nat) (s1 : DS), a + i < c → I i s1 → So0 (g (.int (a + i)) s1) fun s2 => Run0 b s2 (I (i + 1)) Rt Nx (I (i + 1)) Ex) (he : ∀ s1, I (c - a).toNat s1 → Nx s1) :
    Fo0 (rgD a c) s g b Nx Rt Bk Ct Ex := by
  refine for_it_0 I h0 (fun i d s1 h hI => ?_) fun s1 h => he s1 (by rwa [rgD_len] at h)
  obtain ⟨hlt, rfl⟩ := rgD_get h
  exact ht i s1 (by omega) hI
/-- over range(c) -/
theorem for_r0_0 {g : MG} {b : MS} {c : Int} (I : Nat → DS → Prop) (h0 : I 0 s)
    (ht : ∀ (i : Nat) (s1 : DS), (i : Int) < c → I i s1 → So0 (g (.int i) s1) fun s2 => Run0 b s2 (I (i + 1)) Rt Nx (I (i + 1)) Ex) (he : ∀ s1, I c.toNat s1 → Nx s1) :
    Fo0 (rgD 0 c) s g b Nx Rt Bk Ct Ex :=
  for_rg_0 I h0 (fun i s1 h hI => by have := ht i s1 (by omega) hI; rwa [Int.zero_add]) fun s1 h => he s1 (by rwa [Int.sub_zero] at h)
/-- over nothing -/
theorem for_nil_0 {g : MG} {b : MS} (h : Nx s) : Fo0 [] s g b Nx Rt Bk Ct Ex := for_it_0 (fun _ s1 => s1 = s) rfl (fun i d s1 hd => by simp at hd) fun s1 e => by subst e; exact h
/-- while -/
def Wh0 (t : M Bool) (b : MS) (s : DS) (Nx : DS → Prop) (Rt : D → DS → Prop) (Bk Ct : DS → Prop) (Ex : Xc → DS → Prop) (_ : W5 t b Nx Rt (Bk, Ct, Ex) := Unit.unit) : Prop := Run0 (sWhile t b) s Nx Rt Bk Ct Ex
theorem run_wh_0 {t : M Bool} {b : MS} : Run0 (sWhile t b) s Nx Rt Bk Ct Ex = Wh0 t b s Nx Rt Bk Ct Ex := by unfold Wh0; exact nr rfl
theorem wh_by_0 {t : M Bool} {b : MS} (I : DS → Prop) (μ : DS → Nat) (h0 : I s)
    (ht : ∀ s1, I s1 → Ev0 t s1 fun x s2 => Br0 x (Run0 b s2 (fun s3 => I s3 ∧ μ s3 < μ s1) Rt Nx (fun s3 => I s3 ∧ μ s3 < μ s1) Ex) (Nx s2)) : Wh0 t b s Nx Rt Bk Ct Ex := by
  unfold Wh0
  exact run_while_0 I μ h0 ht
theorem divL {i j : Int} (h : 0 < j ∧ j < 18446744073709551616 := by decide) : divC i j = true := divC_of (n := 64) h.1 (by omega)
theorem so_lenL_0 {l : List D} {Q : D → Prop} : So0 (lenD [.list l]) Q = Q (.int l.length) := nr rfl
theorem so_lenT_0 {l : List D} {Q : D → Prop} : So0 (lenD [.tuple l]) Q = Q (.int l.length) := nr rfl
theorem so_slL_0 {l : List D} {lo hi : Option Int} {Q : D → Prop} : So0 (slD (.list l) lo hi) Q = Q (.list (cutD l lo hi)) := nr rfl
theorem cut_mem {l : List D} {lo hi : Option Int} {i : Nat} {d : D} (h : (cutD l lo hi)[i]? = some d) : d ∈ l := by
  have := List.mem_of_getElem? h
  unfold cutD at this
  exact List.mem_of_mem_drop (List.mem_of_mem_take this)
theorem Cl0.out_0 {f : FD} {xs : List D} {Q : D → List D → Prop} (h : Cl0 f xs Q) : ∃ d as, f xs = .ok d as ∧ Q d as := h
theorem nab10 : (Int.natAbs 10 < 18446744073709551616) = True := nr (by decide)
theorem nab2 : (Int.natAbs 2 < 18446744073709551616) = True := nr (by decide)
theorem nap2 (n : Nat) : (2 : Int) ^ n = ((2 ^ n : Nat) : Int) := by simp
theorem abs_pow2 {n : Nat} {x : Int} (h0 : 0 ≤ x) (h : x < 2 ^ n) : x.natAbs < 2 ^ n := by
  rw [nap2] at h
  omega
theorem pow2_pos (n : Nat) : (0 : Int) < 2 ^ n := by
  rw [nap2]
  have := Nat.two_pow_pos n
  omega
theorem pow2_le {m n : Nat} (h : m ≤ n) : (2 : Int) ^ m ≤ 2 ^ n := by
  rw [nap2, nap2]
  exact_mod_cast Nat.pow_le_pow_right (by omega) h
theorem pow2_abs {m n : Nat} (h : m < n) : ((2 : Int) ^ m).natAbs < 2 ^ n := by
  rw [nap2, Int.natAbs_natCast]
  exact Nat.pow_lt_pow_right (by omega) h
/-- 1 << n -/
theorem shl1C {n : Nat} (h : n ≤ 1000000) : shlC 1 n = true := shlC_of (m := 1) (by omega) (by decide) (by omega)
theorem one_shl (n : Nat) : (1 : Int) * 2 ^ ((n : Int).toNat) = 2 ^ n := by rw [Int.toNat_natCast, Int.one_mul]
theorem so_map_0 {α β : Type} {o : Option α} {f : α → β} {Q : β → Prop} : So0 (o.map f) Q = So0 o fun a => Q (f a) := by cases o <;> rfl
end
end Z
set_option Elab.async false
set_option linter.all false
set_option maxRecDepth 100000
namespace Z
open PySem L2
/-! ### in, of flat things -/
def flatD : D → Bool
  | .none => true
  | .bool _ => true
  | .int _ => true
  | .str _ => true
  | _ => false
def eqF : D → D → Bool
  | .none, .none => true
  | .bool a, .bool b => a == b
  | .bool a, .int b => (if a then 1 else 0) == b
  | .int a, .bool b => a == (if b then 1 else 0)
  | .int a, .int b => a == b
  | .str a, .str b => a == b
  | _, _ => false
def inD : D → D → Option D
  | x, .list ys => if flatD x && ys.all flatD then some (.bool (ys.any fun y => eqF y x)) else none
  | x, .tuple ys => if flatD x && ys.all flatD then some (.bool (ys.any fun y => eqF y x)) else none
  | _, _ => none
def notInD : D → D → Option D
  | x, .list ys => if flatD x && ys.all flatD then some (.bool (!ys.any fun y => eqF y x)) else none
  | x, .tuple ys => if flatD x && ys.all flatD then some (.bool (!ys.any fun y => eqF y x)) else none
  | _, _ => none
section
variable {K : Fg} {F : Hp}
theorem flat_dp {v : V} {d : D} (h : Dp K F v d) (f : flatD d = true) : flatV v = true := by
  cases h <;> first | rfl | exact absurd f (by simp [flatD])
theorem eqF_dp {v u : V} {d e : D} (h : Dp K F v d) (g : Dp K F u e) (f1 : flatD d = true) (f2 : flatD e = true) : eqV v u = eqF d e := by
  cases h <;> cases g <;> first | rfl | exact absurd f1 (by simp [flatD]) | exact absurd f2 (by simp [flatD])
theorem flats_dp : ∀ {vs : List V} {ds : List D}, DpAll K F vs ds → ds.all flatD = true → vs.all flatV = true
  | _, _, .nil, _ => rfl
  | _, _, .cons h t, f => by
    rw [List.all_cons, Bool.and_eq_true] at f ⊢
    exact ⟨flat_dp h f.1, flats_dp t f.2⟩
theorem any_dp {x : V} {dx : D} (hx : Dp K F x dx) (fx : flatD dx = true) : ∀ {vs : List V} {ds : List D}, DpAll K F vs ds → ds.all flatD = true → (vs.any fun y => eqV y x) = ds.any fun y => eqF y dx
  | _, _, .nil, _ => rfl
  | _, _, .cons h t, f => by
    rw [List.all_cons, Bool.and_eq_true] at f
    rw [List.any_cons, List.any_cons, eqF_dp h hx f.1 fx, any_dp hx fx t f.2]
theorem vw_flat {H : Hp} {x : V} {d : D} (h : Vw K F H x d) (f : flatD d = true) : Dp K F x d := by
  rcases h with h | ⟨p, xs, ds, rfl, rfl, hp, al⟩
  · exact h
  · exact absurd f (by simp [flatD])
theorem g_in : OpG K (rIn K false) inD := fun F H x y dx dy d sF vx vy e Q q => by
  unfold inD at e
  split at e
  · split at e
    · rename_i hf
      rw [Bool.and_eq_true] at hf
      cases e
      obtain ⟨p, xs, rfl, sq, al⟩ := vy.lst sF
      have dx := vw_flat vx hf.1
      refine ⟨p, xs, rfl, .inl sq, flat_dp dx hf.1, flats_dp al hf.2, ?_⟩
      unfold inV
      rw [any_dp dx hf.1 al hf.2]
      exact q F H _ .refl (.bl _)
    · cases e
  · split at e
    · rename_i hf
      rw [Bool.and_eq_true] at hf
      cases e
      obtain ⟨p, xs, rfl, sq, al⟩ := vy.tup sF
      have dx := vw_flat vx hf.1
      refine ⟨p, xs, rfl, .inr sq, flat_dp dx hf.1, flats_dp al hf.2, ?_⟩
      unfold inV
      rw [any_dp dx hf.1 al hf.2]
      exact q F H _ .refl (.bl _)
    · cases e
  · cases e
theorem g_notIn : OpG K (rIn K true) notInD := fun F H x y dx dy d sF vx vy e Q q => by
  unfold notInD at e
  split at e
  · split at e
    · rename_i hf
      rw [Bool.and_eq_true] at hf
      cases e
      obtain ⟨p, xs, rfl, sq, al⟩ := vy.lst sF
      have dx := vw_flat vx hf.1
      refine ⟨p, xs, rfl, .inl sq, flat_dp dx hf.1, flats_dp al hf.2, ?_⟩
      unfold inV
      rw [any_dp dx hf.1 al hf.2]
      exact q F H _ .refl (.bl _)
    · cases e
  · split at e
    · rename_i hf
      rw [Bool.and_eq_true] at hf
      cases e
      obtain ⟨p, xs, rfl, sq, al⟩ := vy.tup sF
      have dx := vw_flat vx hf.1
      refine ⟨p, xs, rfl, .inr sq, flat_dp dx hf.1, flats_dp al hf.2, ?_⟩
      unfold inV
      rw [any_dp dx hf.1 al hf.2]
      exact q F H _ .refl (.bl _)
    · cases e
  · cases e
end
section
variable {Q : D → Prop} {x : D} {l : List D}
theorem so_inL_0 : So0 (inD x (.list l)) Q = ((flatD x && l.all flatD) = true ∧ Q (.bool (l.any fun y => eqF y x))) := by
  show So0 (if (flatD x && l.all flatD) = true then some (PyData.bool (l.any fun y => eqF y x)) else none) Q = _
  exact so_if_0
theorem so_inT_0 : So0 (inD x (.tuple l)) Q = ((flatD x && l.all flatD) = true ∧ Q (.bool (l.any fun y => eqF y x))) := by
  show So0 (if (flatD x && l.all flatD) = true then some (PyData.bool (l.any fun y => eqF y x)) else none) Q = _
  exact so_if_0
theorem so_ninL_0 : So0 (notInD x (.list l)) Q = ((flatD x && l.all flatD) = true ∧ Q (.bool (!l.any fun y => eqF y x))) := by
  show So0 (if (flatD x && l.all flatD) = true then some (PyData.bool (!l.any fun y => eqF y x)) else none) Q = _
  exact so_if_0
theorem so_ninT_0 : So0 (notInD x (.tuple l)) Q = ((flatD x && l.all flatD) = true ∧ Q (.bool (!l.any fun y => eqF y x))) := by
  show So0 (if (flatD x && l.all flatD) = true then some (PyData.bool (!l.any fun y => eqF y x)) else none) Q = _
  exact so_if_0
end
end Z
set_option Elab.async false
set_option linter.all false
set_option maxRecDepth 100000
namespace Z
open PySem L2
/-! ### the same, closed: nothing looks into them by itself -/
@[irreducible] def Ev {α : Type} (m : M α) (s : DS) (Q : α → DS → Prop) (_ : W2 m Q := Unit.unit) : Prop := Ev0 m s Q
@[irreducible] def Run (b : MS) (s : DS) (Nx : DS → Prop) (Rt : D → DS → Prop) (Bk Ct : DS → Prop) (Ex : Xc → DS → Prop) (_ : W5 b Nx Rt Bk (Ct, Ex) := Unit.unit) : Prop := Run0 b s Nx Rt Bk Ct Ex
@[irreducible] def So {α : Type} (o : Option α) (Q : α → Prop) (_ : W1 Q := Unit.unit) : Prop := So0 o Q
@[irreducible] def Br (x : Bool) (A B : Prop) (_ : W2 A B := Unit.unit) : Prop := Br0 x A B
@[irreducible] def Cl (f : FD) (xs : List D) (Q : D → List D → Prop) (_ : W2 f Q := Unit.unit) : Prop := Cl0 f xs Q
@[irreducible] def Fo (xs : List D) (s : DS) (g : MG) (b : MS) (Nx : DS → Prop) (Rt : D → DS → Prop) (Bk Ct : DS → Prop) (Ex : Xc → DS → Prop) (_ : W5 g b Nx Rt (Bk, Ct, Ex) := Unit.unit) : Prop := Fo0 xs s g b Nx Rt Bk Ct Ex
@[irreducible] def Wh (t : M Bool) (b : MS) (s : DS) (Nx : DS → Prop) (Rt : D → DS → Prop) (Bk Ct : DS → Prop) (Ex : Xc → DS → Prop) (_ : W5 t b Nx Rt (Bk, Ct, Ex) := Unit.unit) : Prop := Wh0 t b s Nx Rt Bk Ct Ex
theorem br_t {A B : Prop} : Br true A B = A := by with_unfolding_all exact br_t_0
theorem br_f {A B : Prop} : Br false A B = B := by with_unfolding_all exact br_f_0
theorem br_i {x : Bool} {A B : Prop} (h1 : x = true → A) (h2 : x = false → B) : Br x A B := by with_unfolding_all exact br_i_0 h1 h2
theorem br_d {p : Prop} [Decidable p] {A B : Prop} (h1 : p → A) (h2 : ¬ p → B) : Br (decide p) A B := br_i (fun h => h1 (of_decide_eq_true h)) fun h => h2 (of_decide_eq_false h)
theorem br_y {p : Prop} [Decidable p] {A B : Prop} (h : p) (h1 : A) : Br (decide p) A B := br_d (fun _ => h1) fun z => absurd h z
theorem br_n {p : Prop} [Decidable p] {A B : Prop} (h : ¬ p) (h1 : B) : Br (decide p) A B := br_d (fun z => absurd z h) fun _ => h1
/-- not p: the way of a test that holds is not taken -/
theorem br_ny {p : Prop} [Decidable p] {A B : Prop} (h : p) (h1 : B) : Br (!decide p) A B := br_i (fun z => by simp [h] at z) fun _ => h1
theorem br_nn {p : Prop} [Decidable p] {A B : Prop} (h : ¬ p) (h1 : A) : Br (!decide p) A B := br_i (fun _ => h1) fun z => by simp [h] at z
theorem br_nd {p : Prop} [Decidable p] {A B : Prop} (h1 : ¬ p → A) (h2 : p → B) : Br (!decide p) A B := br_i (fun h => h1 (by simpa using h)) fun h => h2 (by simpa using h)
theorem Cl.of {f : FD} {xs : List D} {Q : D → List D → Prop} {d : D} {as : List D} (h : f xs = .ok d as) (q : Q d as) : Cl f xs Q := by with_unfolding_all exact ⟨d, as, h, q⟩
theorem Cl.out {f : FD} {xs : List D} {Q : D → List D → Prop} (h : Cl f xs Q) : ∃ d as, f xs = .ok d as ∧ Q d as := by with_unfolding_all exact h
theorem Cl.mono {f : FD} {xs : List D} {Q Q' : D → List D → Prop} (h : Cl f xs Q) (g : ∀ d as, Q d as → Q' d as) : Cl f xs Q' := by
  obtain ⟨d, as, e, q⟩ := h.out
  exact .of e (g d as q)
theorem ev_mono {α : Type} {m : M α} {s : DS} {Q Q' : α → DS → Prop} (h : Ev m s Q) (f : ∀ a s', Q a s' → Q' a s') : Ev m s Q' := by with_unfolding_all exact ev_mono_0 h f
theorem run_mono {b : MS} {s : DS} {Nx Bk Ct : DS → Prop} {Ex : Xc → DS → Prop} {Rt : D → DS → Prop} {Nx' Bk' Ct' : DS → Prop} {Ex' : Xc → DS → Prop} {Rt' : D → DS → Prop} (h : Run b s Nx Rt Bk Ct Ex) (f1 : ∀ s', Nx s' → Nx' s') (f2 : ∀ d s', Rt d s' → Rt' d s') (f3 : ∀ s', Bk s' → Bk' s') (f4 : ∀ s', Ct s' → Ct' s') (f5 : ∀ x s', Ex x s' → Ex' x s') : Run b s Nx' Rt' Bk' Ct' Ex' := by with_unfolding_all exact run_mono_0 h f1 f2 f3 f4 f5
theorem fn_cl {N n : Nat} {rk : Kd} {b : MS} {args : List D} {Q : D → List D → Prop} (hl : args.length = n) (h : Run b (entry N args) (fun s => rk = .sh ∧ So ((List.range n).mapM (look s)) fun as => Q .none as) (fun d s => So ((List.range n).mapM (look s)) fun as => Q d as) (fun _ => False) (fun _ => False) (fun _ _ => False)) :
    Cl (fnD N n rk b) args Q := by with_unfolding_all exact fn_cl_0 hl h
theorem so_at {l : List D} {i : Int} {Q : D → Prop} (h0 : 0 ≤ i) (h1 : i < l.length) (h : ∀ v, l[i.toNat]? = some v → Q v) : So (atI l i) Q := by with_unfolding_all exact so_at_0 h0 h1 h
theorem so_ixN {n : Nat} {i : Int} {Q : Nat → Prop} (h0 : 0 ≤ i) (h1 : i < n) (h : Q i.toNat) : So (ixN n i) Q := by with_unfolding_all exact so_ixN_0 h0 h1 h
section
variable {s : DS} {Nx : DS → Prop} {Rt : D → DS → Prop} {Bk Ct : DS → Prop} {Ex : Xc → DS → Prop}
theorem for_it {g : MG} {b : MS} {xs : List D} (I : Nat → DS → Prop) (h0 : I 0 s)
    (ht : ∀ (i : Nat) (d : D) (s1 : DS), xs[i]? = some d → I i s1 → So (g d s1) fun s2 => Run b s2 (I (i + 1)) Rt Nx (I (i + 1)) Ex) (he : ∀ s1, I xs.length s1 → Nx s1) :
    Fo xs s g b Nx Rt Bk Ct Ex := by with_unfolding_all exact for_it_0 I h0 ht he
theorem for_rg {g : MG} {b : MS} {a c : Int} (I : Nat → DS → Prop) (h0 : I 0 s)
    (ht : ∀ (i : Nat) (s1 : DS), a + i < c → I i s1 → So (g (.int (a + i)) s1) fun s2 => Run b s2 (I (i + 1)) Rt Nx (I (i + 1)) Ex) (he : ∀ s1, I (c - a).toNat s1 → Nx s1) :
    Fo (rgD a c) s g b Nx Rt Bk Ct Ex := by with_unfolding_all exact for_rg_0 I h0 ht he
theorem for_r0 {g : MG} {b : MS} {c : Int} (I : Nat → DS → Prop) (h0 : I 0 s)
    (ht : ∀ (i : Nat) (s1 : DS), (i : Int) < c → I i s1 → So (g (.int i) s1) fun s2 => Run b s2 (I (i + 1)) Rt Nx (I (i + 1)) Ex) (he : ∀ s1, I c.toNat s1 → Nx s1) :
    Fo (rgD 0 c) s g b Nx Rt Bk Ct Ex := by with_unfolding_all exact for_r0_0 I h0 ht he
theorem for_nil {g : MG} {b : MS} (h : Nx s) : Fo [] s g b Nx Rt Bk Ct Ex := by with_unfolding_all exact for_nil_0 h
theorem wh_by {t : M Bool} {b : MS} (I : DS → Prop) (μ : DS → Nat) (h0 : I s)
    (ht : ∀ s1, I s1 → Ev t s1 fun x s2 => Br x (Run b s2 (fun s3 => I s3 ∧ μ s3 < μ s1) Rt Nx (fun s3 => I s3 ∧ μ s3 < μ s1) Ex) (Nx s2)) : Wh t b s Nx Rt Bk Ct Ex := by with_unfolding_all exact wh_by_0 I μ h0 ht
end
section
variable {α β : Type} {s : DS} {Nx Bk Ct : DS → Prop} {Ex : Xc → DS → Prop} {Rt : D → DS → Prop}
theorem so_some {a : α} {Q : α → Prop} : So (some a) Q = Q a := by with_unfolding_all exact so_some_0
theorem so_none {Q : α → Prop} : So (none : Option α) Q = False := by with_unfolding_all exact so_none_0
theorem so_if {c : Bool} {o : Option α} {Q : α → Prop} : So (if c = true then o else none) Q = (c = true ∧ So o Q) := by with_unfolding_all exact so_if_0
theorem so_dec {c : Prop} [Decidable c] {o : Option α} {Q : α → Prop} : So (if c then o else none) Q = (c ∧ So o Q) := by with_unfolding_all exact so_dec_0
theorem ev_bnd {m : M α} {f : α → M β} {Q : β → DS → Prop} : Ev (bnd m f) s Q = Ev m s fun a s' => Ev (f a) s' Q := by with_unfolding_all exact ev_bnd_0
theorem ev_ok {a : α} {Q : α → DS → Prop} : Ev (fun s => R.ok a s) s Q = Q a s := by with_unfolding_all exact ev_ok_0
theorem ev_opt {o : Option α} {Q : α → DS → Prop} : Ev (opt o) s Q = So o fun a => Q a s := by with_unfolding_all exact ev_opt_0
theorem ev_var {i : Nat} {Q : D → DS → Prop} : Ev (mVar i) s Q = So (look s i) fun d => Q d s := by with_unfolding_all exact ev_var_0
theorem ev_C {d : D} {Q : D → DS → Prop} : Ev (mC d) s Q = Q d s := by with_unfolding_all exact ev_C_0
theorem ev_V {m : M D} {Q : BR → DS → Prop} : Ev (mV m) s Q = Ev m s fun d s' => Q (.val d) s' := by with_unfolding_all exact ev_V_0
theorem ev_slot {i : Nat} {Q : BR → DS → Prop} : Ev (mSlot i) s Q = So (look s i) fun _ => Q (.slot i) s := by with_unfolding_all exact ev_slot_0
theorem ev_op {f : D → D → Option D} {a b : M BR} {Q : D → DS → Prop} : Ev (mOp f a b) s Q = Ev a s fun x s1 => Ev b s1 fun y s2 => So (res s2 x) fun dx => So (res s2 y) fun dy => So (f dx dy) fun d => Q d s2 := by with_unfolding_all exact ev_op_0
theorem ev_un {f : D → Option D} {a : M BR} {Q : D → DS → Prop} : Ev (mUn f a) s Q = Ev a s fun x s1 => So (res s1 x) fun dx => So (f dx) fun d => Q d s1 := by with_unfolding_all exact ev_un_0
theorem ev_B {m : M D} {Q : Bool → DS → Prop} : Ev (mB m) s Q = Ev m s fun d s' => So (tru d) fun b => Q b s' := by with_unfolding_all exact ev_B_0
theorem ev_not {a : M Bool} {Q : Bool → DS → Prop} : Ev (mNot a) s Q = Ev a s fun x s' => Q (!x) s' := by with_unfolding_all exact ev_not_0
theorem ev_notV {a : M D} {Q : D → DS → Prop} : Ev (mNotV a) s Q = Ev (mB a) s fun x s' => Q (.bool (!x)) s' := by with_unfolding_all exact ev_notV_0
theorem ev_nil {Q : List D → DS → Prop} : Ev mNil s Q = Q [] s := by with_unfolding_all exact ev_nil_0
theorem ev_cons {a : M D} {r : M (List D)} {Q : List D → DS → Prop} : Ev (mCons a r) s Q = Ev a s fun x s1 => Ev r s1 fun xs s2 => Q (x :: xs) s2 := by with_unfolding_all exact ev_cons_0
theorem ev_nilB {Q : List BR → DS → Prop} : Ev mNilB s Q = Q [] s := by with_unfolding_all exact ev_nilB_0
theorem ev_consB {a : M BR} {r : M (List BR)} {Q : List BR → DS → Prop} : Ev (mConsB a r) s Q = Ev a s fun x s1 => Ev r s1 fun xs s2 => Q (x :: xs) s2 := by with_unfolding_all exact ev_consB_0
theorem ev_tup {a : M (List D)} {Q : D → DS → Prop} : Ev (mTup a) s Q = Ev a s fun xs s' => fits xs.length = true ∧ Q (.tuple xs) s' := by with_unfolding_all exact ev_tup_0
theorem ev_lst {a : M (List D)} {Q : D → DS → Prop} : Ev (mLst a) s Q = Ev a s fun xs s' => fits xs.length = true ∧ Q (.list xs) s' := by with_unfolding_all exact ev_lst_0
theorem ev_B1 {f : List D → Option D} {a : M (List BR)} {Q : D → DS → Prop} : Ev (mB1 f a) s Q = Ev a s fun xs s' => So (xs.mapM (res s')) fun ds => So (f ds) fun d => Q d s' := by with_unfolding_all exact ev_B1_0
theorem ev_sl {a : M BR} {lo hi : M (Option Int)} {Q : D → DS → Prop} : Ev (mSl a lo hi) s Q = Ev a s fun x s1 => Ev lo s1 fun l s2 => Ev hi s2 fun h s3 => So (res s3 x) fun d => So (slD d l h) fun r => Q r s3 := by with_unfolding_all exact ev_sl_0
theorem ev_P0 {Q : Option Int → DS → Prop} : Ev mP0 s Q = Q none s := by with_unfolding_all exact ev_P0_0
theorem ev_P1 {m : M D} {Q : Option Int → DS → Prop} : Ev (mP1 m) s Q = Ev m s fun d s' => So (iof d) fun i => Q (some i) s' := by with_unfolding_all exact ev_P1_0
theorem ev_Rg1 {m : M D} {Q : Int × Int → DS → Prop} : Ev (mRg1 m) s Q = Ev m s fun d s' => So (iof d) fun i => Q (0, i) s' := by with_unfolding_all exact ev_Rg1_0
theorem ev_Rg2 {m n : M D} {Q : Int × Int → DS → Prop} : Ev (mRg2 m n) s Q = Ev m s fun d s1 => Ev n s1 fun e s' => So (iof d) fun i => So (iof e) fun j => Q (i, j) s' := by with_unfolding_all exact ev_Rg2_0
theorem ev_LstRg {m : M (Int × Int)} {Q : D → DS → Prop} : Ev (mLstRg m) s Q = Ev m s fun p s' => rgC p.1 p.2 = true ∧ Q (.list (rgD p.1 p.2)) s' := by with_unfolding_all exact ev_LstRg_0
theorem ev_It {m : M D} {Q : List D → DS → Prop} : Ev (mIt m) s Q = Ev m s fun d s' => So (itD d) fun xs => Q xs s' := by with_unfolding_all exact ev_It_0
theorem ev_R1 {m : M (List D)} {Q : List D → DS → Prop} : Ev (mR1 m) s Q = Ev m s fun d s' => So (r1D d) fun j => rngC 0 j = true ∧ Q (rgD 0 j) s' := by with_unfolding_all exact ev_R1_0
theorem ev_R2 {m : M (List D)} {Q : List D → DS → Prop} : Ev (mR2 m) s Q = Ev m s fun d s' => So (r2D d) fun p => rngC p.1 p.2 = true ∧ Q (rgD p.1 p.2) s' := by with_unfolding_all exact ev_R2_0
theorem run_nx : Run sNx s Nx Rt Bk Ct Ex = Nx s := by with_unfolding_all exact run_nx_0
theorem run_no : Run sNo s Nx Rt Bk Ct Ex = False := by with_unfolding_all exact run_no_0
theorem run_bk : Run sBk s Nx Rt Bk Ct Ex = Bk s := by with_unfolding_all exact run_bk_0
theorem run_ct : Run sCt s Nx Rt Bk Ct Ex = Ct s := by with_unfolding_all exact run_ct_0
theorem run_seq {a b : MS} : Run (sSeq a b) s Nx Rt Bk Ct Ex = Run a s (fun s' => Run b s' Nx Rt Bk Ct Ex) Rt Bk Ct Ex := by with_unfolding_all exact run_seq_0
theorem run_set {i : Nat} {m : M D} : Run (sSet i m) s Nx Rt Bk Ct Ex = Ev m s fun d s' => Nx (s'.set i (some d)) := by with_unfolding_all exact run_set_0
theorem run_drop {m : M D} : Run (sDrop m) s Nx Rt Bk Ct Ex = Ev m s fun _ s' => Nx s' := by with_unfolding_all exact run_drop_0
theorem run_ret {m : M D} : Run (sRet m) s Nx Rt Bk Ct Ex = Ev m s fun d s' => Rt d s' := by with_unfolding_all exact run_ret_0
theorem run_asg {m : M D} {g : MG} : Run (sAsg m g) s Nx Rt Bk Ct Ex = Ev m s fun d s' => So (g d s') fun s2 => Nx s2 := by with_unfolding_all exact run_asg_0
theorem run_app {i : Nat} {m : M D} : Run (sApp i m) s Nx Rt Bk Ct Ex = So (look s i) fun d0 => So (lof d0) fun _ => Ev m s fun d s' => So (look s' i) fun d1 => So (lof d1) fun xs => decide (xs.length < sizeLine) = true ∧ Nx (s'.set i (some (.list (xs ++ [d])))) := by with_unfolding_all exact run_app_0
theorem run_put {i : Nat} {me m : M D} : Run (sPut i me m) s Nx Rt Bk Ct Ex = Ev m s fun d s1 => So (look s1 i) fun d0 => So (lof d0) fun _ => Ev me s1 fun k s2 => So (iof k) fun z => So (look s2 i) fun d1 => So (lof d1) fun xs => So (ixN xs.length z) fun j => Nx (s2.set i (some (.list (xs.set j d)))) := by with_unfolding_all exact run_put_0
theorem run_aug {i : Nat} {f : D → D → Option D} {m : M D} : Run (sAug i f m) s Nx Rt Bk Ct Ex = So (look s i) fun x => Ev m s fun y s' => So (f x y) fun z => Nx (s'.set i (some z)) := by with_unfolding_all exact run_aug_0
theorem run_frz {i : Nat} {b : MS} : Run (sFrz i b) s Nx Rt Bk Ct Ex = So (look s i) fun _ => Run b s Nx Rt Bk Ct Ex := by with_unfolding_all exact run_frz_0
theorem run_kill {i : Nat} {b : MS} : Run (sKill i b) s Nx Rt Bk Ct Ex = Run b (s.set i none) Nx Rt Bk Ct Ex := by with_unfolding_all exact run_kill_0
end
section
variable {s : DS} {Nx : DS → Prop} {Rt : D → DS → Prop} {Bk Ct : DS → Prop} {Ex : Xc → DS → Prop}
theorem so_bind {α β : Type} {o : Option α} {f : α → Option β} {Q : β → Prop} : So (o >>= f) Q = So o fun a => So (f a) Q := by with_unfolding_all exact so_bind_0
theorem so_pure {α : Type} {a : α} {Q : α → Prop} : So (pure a) Q = Q a := by with_unfolding_all exact so_pure_0
theorem so_mapN {α β : Type} {f : α → Option β} {Q : List β → Prop} : So (List.mapM f []) Q = Q [] := by with_unfolding_all exact so_mapN_0
theorem so_mapC {α β : Type} {f : α → Option β} {x : α} {l : List α} {Q : List β → Prop} : So (List.mapM f (x :: l)) Q = So (f x) fun a => So (List.mapM f l) fun as => Q (a :: as) := by with_unfolding_all exact so_mapC_0
theorem lks_eq {n : Nat} {Q : List D → Prop} : So ((List.range n).mapM (look s)) Q = So ((List.range' 0 n).mapM (look s)) Q := by with_unfolding_all exact lks_eq_0
theorem xv_and {a b : M Bool} {Q : Bool → DS → Prop} : Ev (mAnd a b) s Q = Ev a s fun x s' => Br x (Ev b s' Q) (Q false s') := by with_unfolding_all exact xv_and_0
theorem xv_or {a b : M Bool} {Q : Bool → DS → Prop} : Ev (mOr a b) s Q = Ev a s fun x s' => Br x (Q true s') (Ev b s' Q) := by with_unfolding_all exact xv_or_0
theorem xv_andV {a b : M D} {Q : D → DS → Prop} : Ev (mAndV a b) s Q = Ev (mB a) s fun x s' => Br x (Ev b s' Q) (Q (.bool false) s') := by with_unfolding_all exact xv_andV_0
theorem xv_orV {a b : M D} {Q : D → DS → Prop} : Ev (mOrV a b) s Q = Ev (mB a) s fun x s' => Br x (Q (.bool true) s') (Ev b s' Q) := by with_unfolding_all exact xv_orV_0
theorem xv_if {t : M Bool} {a b : M D} {Q : D → DS → Prop} : Ev (mIf t a b) s Q = Ev t s fun x s' => Br x (Ev a s' Q) (Ev b s' Q) := by with_unfolding_all exact xv_if_0
theorem xv_chain {f g : D → D → Option D} {a b c : M D} {Q : D → DS → Prop} : Ev (mChain f g a b c) s Q = Ev a s fun x s1 => Ev b s1 fun y s2 => So (f x y) fun z => So (tru z) fun k => Br k (Ev c s2 fun w s3 => So (g y w) fun r => Q r s3) (Q (.bool false) s2) := by with_unfolding_all exact xv_chain_0
theorem xr_if {t : M Bool} {a b : MS} : Run (sIf t a b) s Nx Rt Bk Ct Ex = Ev t s fun x s' => Br x (Run a s' Nx Rt Bk Ct Ex) (Run b s' Nx Rt Bk Ct Ex) := by with_unfolding_all exact xr_if_0
theorem xv_call {f : FD} {n : Nat} {a : M (List D)} {Q : D → DS → Prop} : Ev (mCall f n a) s Q = Ev a s fun xs s' => xs.length = n ∧ Cl f xs fun d _ => Q d s' := by with_unfolding_all exact xv_call_0
theorem xv_call1 {f : FD} {n j : Nat} {a : M (List D)} {Q : D → DS → Prop} : Ev (mCall1 f n j a) s Q = So (look s j) fun _ => Ev a s fun xs s' => So (look s' j) fun e => xs.length = n ∧ Cl f (e :: xs) fun d as => So (hdO as) fun e' => Q d (s'.set j (some e')) := by with_unfolding_all exact xv_call1_0
theorem xv_callT {f : FD} {n : Nat} {m0 : M D} {a : M (List D)} {Q : D → DS → Prop} : Ev (mCallT f n m0 a) s Q = Ev m0 s fun e s1 => Ev a s1 fun xs s' => xs.length = n ∧ Cl f (e :: xs) fun d as => So (hdO as) fun _ => Q d s' := by with_unfolding_all exact xv_callT_0
theorem hdC {a : D} {as : List D} {Q : D → Prop} : So (hdO (a :: as)) Q = Q a := by with_unfolding_all exact hdC_0
variable {i j : Int} {Q : D → Prop}
theorem so_add : So (addD (.int i) (.int j)) Q = Q (.int (i + j)) := by with_unfolding_all exact so_add_0
theorem so_sub : So (subI (.int i) (.int j)) Q = Q (.int (i - j)) := by with_unfolding_all exact so_sub_0
theorem so_addN : So (addN (.int i) (.int j)) Q = Q (.int (i + j)) := by with_unfolding_all exact so_addN_0
theorem so_subN : So (subN (.int i) (.int j)) Q = Q (.int (i - j)) := by with_unfolding_all exact so_subN_0
theorem so_mul : So (mulI (.int i) (.int j)) Q = (mulC i j = true ∧ Q (.int (i * j))) := by with_unfolding_all exact so_mul_0
theorem so_div : So (divI (.int i) (.int j)) Q = (divC i j = true ∧ Q (.int (i / j))) := by with_unfolding_all exact so_div_0
theorem so_mod : So (modI (.int i) (.int j)) Q = (modC i j = true ∧ Q (.int (i % j))) := by with_unfolding_all exact so_mod_0
theorem so_pow : So (powI (.int i) (.int j)) Q = (powC i j = true ∧ Q (.int (i ^ j.toNat))) := by with_unfolding_all exact so_pow_0
theorem so_shl : So (shlI (.int i) (.int j)) Q = (shlC i j = true ∧ Q (.int (i * 2 ^ j.toNat))) := by with_unfolding_all exact so_shl_0
theorem so_shr : So (shrI (.int i) (.int j)) Q = (shrC i j = true ∧ Q (.int (i / 2 ^ j.toNat))) := by with_unfolding_all exact so_shr_0
theorem so_and : So (andI (.int i) (.int j)) Q = Q (.int (Builtin.bitAnd i j)) := by with_unfolding_all exact so_and_0
theorem so_or : So (orI (.int i) (.int j)) Q = Q (.int (Builtin.bitOr i j)) := by with_unfolding_all exact so_or_0
theorem so_xor : So (xorI (.int i) (.int j)) Q = Q (.int (Builtin.bitXor i j)) := by with_unfolding_all exact so_xor_0
theorem so_lt : So (ltI (.int i) (.int j)) Q = Q (.bool (decide (i < j))) := by with_unfolding_all exact so_lt_0
theorem so_le : So (leI (.int i) (.int j)) Q = Q (.bool (decide (i ≤ j))) := by with_unfolding_all exact so_le_0
theorem so_gt : So (gtI (.int i) (.int j)) Q = Q (.bool (decide (j < i))) := by with_unfolding_all exact so_gt_0
theorem so_ge : So (geI (.int i) (.int j)) Q = Q (.bool (decide (j ≤ i))) := by with_unfolding_all exact so_ge_0
theorem so_eqI : So (eqD (.int i) (.int j)) Q = Q (.bool (decide (i = j))) := by with_unfolding_all exact so_eqI_0
theorem so_neI : So (neD (.int i) (.int j)) Q = Q (.bool (!decide (i = j))) := by with_unfolding_all exact so_neI_0
theorem so_neg : So (negI (.int i)) Q = Q (.int (-i)) := by with_unfolding_all exact so_neg_0
theorem so_isN {d : D} : So (isN d .none) Q = Q (.bool (nonB d)) := by with_unfolding_all exact so_isN_0
theorem so_notN {d : D} : So (notN d .none) Q = Q (.bool (!nonB d)) := by with_unfolding_all exact so_notN_0
theorem so_ixL {l : List D} : So (ixD (.list l) (.int i)) Q = So (atI l i) Q := by with_unfolding_all exact so_ixL_0
theorem so_ixT {l : List D} : So (ixD (.tuple l) (.int i)) Q = So (atI l i) Q := by with_unfolding_all exact so_ixT_0
theorem ix0 {α : Type} {a : α} {l : List α} {Q : Nat → Prop} : So (ixN (a :: l).length 0) Q = Q 0 := by with_unfolding_all exact ix0_0
theorem ix1 {α : Type} {a b : α} {l : List α} {Q : Nat → Prop} : So (ixN (a :: b :: l).length 1) Q = Q 1 := by with_unfolding_all exact ix1_0
theorem ix2 {α : Type} {a b c : α} {l : List α} {Q : Nat → Prop} : So (ixN (a :: b :: c :: l).length 2) Q = Q 2 := by with_unfolding_all exact ix2_0
theorem so_tru {b : Bool} {Q : Bool → Prop} : So (tru (.bool b)) Q = Q b := by with_unfolding_all exact so_tru_0
theorem so_iof {Q : Int → Prop} : So (iof (.int i)) Q = Q i := by with_unfolding_all exact so_iof_0
theorem so_lof {l : List D} {Q : List D → Prop} : So (lof (.list l)) Q = Q l := by with_unfolding_all exact so_lof_0
theorem so_itL {l : List D} {Q : List D → Prop} : So (itD (.list l)) Q = Q l := by with_unfolding_all exact so_itL_0
theorem so_itT {l : List D} {Q : List D → Prop} : So (itD (.tuple l)) Q = Q l := by with_unfolding_all exact so_itT_0
theorem so_r1 {Q : Int → Prop} : So (r1D [.int i]) Q = Q i := by with_unfolding_all exact so_r1_0
theorem so_r2 {Q : Int × Int → Prop} : So (r2D [.int i, .int j]) Q = Q (i, j) := by with_unfolding_all exact so_r2_0
theorem so_abs : So (absD [.int i]) Q = Q (.int (if i < 0 then -i else i)) := by with_unfolding_all exact so_abs_0
theorem so_max : So (maxD [.int i, .int j]) Q = Q (.int (if j > i then j else i)) := by with_unfolding_all exact so_max_0
theorem so_min : So (minD [.int i, .int j]) Q = Q (.int (if j < i then j else i)) := by with_unfolding_all exact so_min_0
theorem so_intB {b : Bool} : So (intD [.bool b]) Q = Q (.int (if b then 1 else 0)) := by with_unfolding_all exact so_intB_0
theorem so_intI : So (intD [.int i]) Q = Q (.int i) := by with_unfolding_all exact so_intI_0
theorem so_cat {l k : List D} : So (addD (.list l) (.list k)) Q = (fits (l.length + k.length) = true ∧ Q (.list (l ++ k))) := by with_unfolding_all exact so_cat_0
end
section
variable {s : DS} {Nx : DS → Prop} {Rt : D → DS → Prop} {Bk Ct : DS → Prop} {Ex : Xc → DS → Prop} {Q : DS → Prop}
theorem so_gN {i : Nat} {d : D} : So (gN i d s) Q = Q (s.set i (some d)) := by with_unfolding_all exact so_gN_0
theorem so_gT {n : Nat} {g : List D → DS → Option DS} {xs : List D} : So (gT n g (.tuple xs) s) Q = (xs.length = n ∧ So (g xs s) Q) := by with_unfolding_all exact so_gT_0
theorem so_gL {n : Nat} {g : List D → DS → Option DS} {xs : List D} : So (gL n g (.list xs) s) Q = (xs.length = n ∧ So (g xs s) Q) := by with_unfolding_all exact so_gL_0
theorem so_gC {a : MG} {r : List D → DS → Option DS} {x : D} {ys : List D} : So (gC a r (x :: ys) s) Q = So (a x s) fun s' => So (r ys s') Q := by with_unfolding_all exact so_gC_0
theorem so_gE : So (gE [] s) Q = Q s := by with_unfolding_all exact so_gE_0
theorem run_fo {mi : M (List D)} {g : MG} {b : MS} : Run (sFor mi g b) s Nx Rt Bk Ct Ex = Ev mi s fun xs s' => Fo xs s' g b Nx Rt Bk Ct Ex := by with_unfolding_all exact run_fo_0
theorem run_wh {t : M Bool} {b : MS} : Run (sWhile t b) s Nx Rt Bk Ct Ex = Wh t b s Nx Rt Bk Ct Ex := by with_unfolding_all exact run_wh_0
theorem so_lenL {l : List D} {Q : D → Prop} : So (lenD [.list l]) Q = Q (.int l.length) := by with_unfolding_all exact so_lenL_0
theorem so_lenT {l : List D} {Q : D → Prop} : So (lenD [.tuple l]) Q = Q (.int l.length) := by with_unfolding_all exact so_lenT_0
theorem so_slL {l : List D} {lo hi : Option Int} {Q : D → Prop} : So (slD (.list l) lo hi) Q = Q (.list (cutD l lo hi)) := by with_unfolding_all exact so_slL_0
theorem so_map {α β : Type} {o : Option α} {f : α → β} {Q : β → Prop} : So (o.map f) Q = So o fun a => Q (f a) := by with_unfolding_all exact so_map_0
end
section
variable {Q : D → Prop} {x : D} {l : List D}
theorem so_inL : So (inD x (.list l)) Q = ((flatD x && l.all flatD) = true ∧ Q (.bool (l.any fun y => eqF y x))) := by with_unfolding_all exact so_inL_0
theorem so_inT : So (inD x (.tuple l)) Q = ((flatD x && l.all flatD) = true ∧ Q (.bool (l.any fun y => eqF y x))) := by with_unfolding_all exact so_inT_0
theorem so_ninL : So (notInD x (.list l)) Q = ((flatD x && l.all flatD) = true ∧ Q (.bool (!l.any fun y => eqF y x))) := by with_unfolding_all exact so_ninL_0
theorem so_ninT : So (notInD x (.tuple l)) Q = ((flatD x && l.all flatD) = true ∧ Q (.bool (!l.any fun y => eqF y x))) := by with_unfolding_all exact so_ninT_0
end
end Z
set_option Elab.async false
set_option linter.all false
set_option maxRecDepth 100000
namespace Z
open PySem L2 PyProof.Rows
section
variable {prog : Program} {w : World} {A : Around} {E : Value → Shared → Prop} {s : Shared}
/-- max((a, b)) -/
theorem max_pair {p : Addr} {a b : Int} {t u : Tok} {Q : Value → Shared → Prop} (hh : A.handled = none) (hT : s.heap.IsTuple p #[.int a t, .int b u])
    (h : ∀ h' tk, (∀ c o, s.heap.get? c = some o → h'.get? c = some o) → Q (if b > a then .int b u else .int a t) { s with heap := h', toks := tk }) :
    wpAny (model prog w) A (call (.builtin "max") [.ref p]) Q E s := by
  have hT' : s.heap.IsTuple p (intItems #[(a, t), (b, u)]) := by
    have e : intItems #[(a, t), (b, u)] = #[.int a t, .int b u] := by simp [intItems]
    rw [e]; exact hT
  have hlt : p < s.heap.objs.size := by
    obtain ⟨o, e, _⟩ := hT
    exact Heap.lt_size e
  refine call_max_walk (wpAny_pyIter_tuple hT' ?_)
  refine ⟨_, [_, p], [_], _, _, _, _, rfl, Walks.tuple (A := A.in1) hh _ p (Nat.ne_of_lt hlt) (intItems #[(a, t), (b, u)]),
    ⟨⟨_, Heap.get?_push_size _ rfl, rfl, rfl⟩, hT'.push _⟩, fun c hc => ?_, by simp [intItems], CmpOf.ints_gt (numAt #[(a, t), (b, u)]) (fun _ _ => intItems_at), fun v h' tk hP hk => ?_⟩
  · show c < (s.heap.push _).objs.size
    rw [Heap.size_push]
    rcases List.mem_cons.mp hc with rfl | hc
    · exact Nat.lt_succ_self _
    · rcases List.mem_cons.mp hc with rfl | hc
      · exact Nat.lt_succ_of_lt hlt
      · cases hc
  · have hold : ∀ c o, s.heap.get? c = some o → h'.get? c = some o := fun c o e => by
      refine hk c o (fun hm => ?_) (Heap.get?_push_of_some _ e)
      rcases List.mem_cons.mp hm with e1 | hm
      · exact absurd (e1 ▸ Heap.lt_size e) (Nat.lt_irrefl _)
      · cases hm
    have q := h h' tk hold
    by_cases c : b > a
    · rw [if_pos c] at q
      have : v = .int b u := by
        simp [argBest, numAt, intItems, c] at hP
        exact hP.symm
      rw [this]; exact q
    · rw [if_neg c] at q
      have : v = .int a t := by
        simp [argBest, numAt, intItems, c] at hP
        exact hP.symm
      rw [this]; exact q
end
section
variable {X : Cx}
def rMaxT (K : Fg) : List V → Hp → VK → Prop := fun xs H Q => (∃ i j, xs = [.int i, .int j] ∧ Q (.int (if j > i then j else i)) H) ∨ ∃ p i j, xs = [.ref p] ∧ SqT K H p [.int i, .int j] ∧ Q (.int (if j > i then j else i)) H
theorem call_maxT (hc : X.calm = true) : CallR X (.builtin "max") (rMaxT X.K) := by
  intro pins s σ H xs us Q I r h
  rcases h with h | ⟨p, i, j, rfl, hs, q⟩
  · exact call_max2 hc pins s σ H xs us Q I r h
  · obtain ⟨its, rv, hT, _⟩ := I.tuple hs
    obtain ⟨t, u, rfl⟩ := Vals.int2 rv
    rw [Vals.ref1 r]
    refine max_pair (I.ok.hd hc) hT fun h' tk hk => ⟨.int (if j > i then j else i), H, I.kept hk, ?_, q⟩
    by_cases c : j > i
    · rw [if_pos c, if_pos c]; exact ⟨_, rfl⟩
    · rw [if_neg c, if_neg c]; exact ⟨_, rfl⟩
end
def maxT : List D → Option D
  | [.int i, .int j] => some (.int (if j > i then j else i))
  | [.tuple [.int i, .int j]] => some (.int (if j > i then j else i))
  | _ => none
theorem g_maxT {K : Fg} : CaG K (rMaxT K) maxT := fun F H xs es d sF va e Q q => by
  unfold maxT at e
  split at e
  · cases e
    cases va with
    | cons v1 r =>
      cases r with
      | cons v2 r =>
        cases r
        rw [v1.int, v2.int]
        exact .inl ⟨_, _, rfl, q F H _ .refl (.int _)⟩
  · cases e
    cases va with
    | cons v1 r =>
      cases r
      obtain ⟨p, xs, rfl, sq, al⟩ := v1.tup sF
      cases al with
      | cons d1 r =>
        cases r with
        | cons d2 r =>
          cases r
          cases d1
          cases d2
          exact .inr ⟨p, _, _, rfl, sq, q F H _ .refl (.int _)⟩
  · cases e
section
variable {i j : Int} {Q : D → Prop}
theorem so_maxI : So (maxT [.int i, .int j]) Q = Q (.int (if j > i then j else i)) := by with_unfolding_all exact nr rfl
theorem so_maxT : So (maxT [.tuple [.int i, .int j]]) Q = Q (.int (if j > i then j else i)) := by with_unfolding_all exact nr rfl
end
end Z
set_option Elab.async false
set_option linter.all false
set_option maxRecDepth 100000
namespace Z
open PySem L2
/-! ### list comprehensions -/
def wipeD (s : DS) : List Nat → DS
  | [] => s
  | v :: vs => (wipeD s vs).set v none
def back (s1 s2 : DS) : List Nat → DS
  | [] => s2
  | v :: vs => (back s1 s2 vs).set v (s1[v]?.getD none)
def lcl (g : MG) (t : M Bool) (e : M D) (vs : List Nat) : List D → DS → R (List D)
  | [], s => .ok [] s
  | x :: xs, s => match g x s with
    | none => .no
    | some s2 => match t s2 with
      | .no => .no
      | .ok false s3 => lcl g t e vs xs (wipeD s3 vs)
      | .ok true s3 => match e s3 with
        | .no => .no
        | .ok y s4 => match lcl g t e vs xs (wipeD s4 vs) with
          | .ok ys s5 => .ok (y :: ys) s5
          | .no => .no
def mLc (mi : M (List D)) (g : MG) (t : M Bool) (e : M D) (vs : List Nat) : M D := fun s => match mi s with
  | .no => .no
  | .ok xs s1 => match lcl g t e vs xs (wipeD s1 vs) with
    | .no => .no
    | .ok ys s2 => if fits ys.length then .ok (.list ys) (back s1 s2 vs) else .no
def mYes : M Bool := fun s => .ok true s
section
variable {K : Fg} {c : Ctx} {O : List Kd}
theorem wipe_get (σ : St) : ∀ (vs : List Nat) (i : Nat), i ∉ vs → (wipe σ vs)[i]? = σ[i]?
  | [], _, _ => rfl
  | v :: vs, i, h => by
    unfold wipe
    rw [List.getElem?_set_ne (fun z => h (by rw [z]; exact List.mem_cons_self))]
    exact wipe_get σ vs i fun z => h (List.mem_cons_of_mem _ z)
theorem wipeD_get (s : DS) : ∀ (vs : List Nat) (i : Nat), i ∉ vs → (wipeD s vs)[i]? = s[i]?
  | [], _, _ => rfl
  | v :: vs, i, h => by
    unfold wipeD
    rw [List.getElem?_set_ne (fun z => h (by rw [z]; exact List.mem_cons_self))]
    exact wipeD_get s vs i fun z => h (List.mem_cons_of_mem _ z)
theorem wipeD_len (s : DS) : ∀ vs : List Nat, (wipeD s vs).length = s.length
  | [] => rfl
  | v :: vs => by unfold wipeD; rw [List.length_set, wipeD_len s vs]
theorem wipeD_in (s : DS) : ∀ (vs : List Nat) (i : Nat) (d : D), (wipeD s vs)[i]? = some (some d) → i ∉ vs
  | [], i, d, _ => by simp
  | v :: vs, i, d, h => by
    unfold wipeD at h
    by_cases hi : v = i
    · subst hi
      by_cases hv : v < (wipeD s vs).length
      · rw [List.getElem?_set_self hv] at h; cases h
      · rw [List.getElem?_eq_none (by simpa using hv)] at h; cases h
    · rw [List.getElem?_set_ne hi] at h
      have := wipeD_in s vs i d h
      simp only [List.mem_cons, not_or]
      exact ⟨fun e => hi e.symm, this⟩
theorem back_get (s1 s2 : DS) : ∀ (vs : List Nat) (i : Nat), i ∉ vs → (back s1 s2 vs)[i]? = s2[i]?
  | [], _, _ => rfl
  | v :: vs, i, h => by
    unfold back
    rw [List.getElem?_set_ne (fun z => h (by rw [z]; exact List.mem_cons_self))]
    exact back_get s1 s2 vs i fun z => h (List.mem_cons_of_mem _ z)
theorem back_len (s1 s2 : DS) : ∀ vs : List Nat, (back s1 s2 vs).length = s2.length
  | [] => rfl
  | v :: vs => by unfold back; rw [List.length_set, back_len s1 s2 vs]
theorem back_in (s1 s2 : DS) : ∀ (vs : List Nat) (i : Nat) (d : D), i ∈ vs → (back s1 s2 vs)[i]? = some (some d) → s1[i]? = some (some d)
  | [], i, d, h, _ => absurd h (by simp)
  | v :: vs, i, d, h, e => by
    unfold back at e
    by_cases hi : v = i
    · subst hi
      by_cases hv : v < (back s1 s2 vs).length
      · rw [List.getElem?_set_self hv] at e
        cases z : s1[v]? with
        | none => rw [z] at e; cases e
        | some o => rw [z] at e; simpa using e
      · rw [List.getElem?_eq_none (by simpa using hv)] at e; cases e
    · rw [List.getElem?_set_ne hi] at e
      rcases List.mem_cons.mp h with z | z
      · exact absurd z.symm hi
      · exact back_in s1 s2 vs i d z e
theorem wipe_wipe (σ : St) (vs : List Nat) : wipe (wipe σ vs) vs = wipe σ vs := by
  apply List.ext_getElem?
  intro i
  by_cases h : i ∈ vs
  · have key : ∀ (τ : St) (ws : List Nat), i ∈ ws → (wipe τ ws)[i]? = if i < τ.length then some none else none := fun τ ws => by
      induction ws with
      | nil => intro h; exact absurd h (by simp)
      | cons w ws ih =>
        intro h
        unfold wipe
        by_cases z : w = i
        · subst z
          by_cases hl : w < τ.length
          · rw [List.getElem?_set_self (by rw [wipe_length]; exact hl), if_pos hl]
          · rw [List.getElem?_eq_none (by rw [List.length_set, wipe_length]; omega), if_neg hl]
        · rw [List.getElem?_set_ne z]
          rcases List.mem_cons.mp h with y | y
          · exact absurd y.symm z
          · exact ih y
    rw [key _ _ h, key _ _ h, wipe_length]
  · rw [wipe_get _ _ _ h]
theorem wipe_set (σ : St) (vs : List Nat) (i : Nat) (x : Option V) (h : i ∈ vs) : wipe (σ.set i x) vs = wipe σ vs := by
  induction vs with
  | nil => exact absurd h (by simp)
  | cons v vs ih =>
    unfold wipe
    by_cases z : i ∈ vs
    · rw [ih z]
    · have e : i = v := by
        rcases List.mem_cons.mp h with y | y
        · exact y
        · exact absurd y z
      subst e
      apply List.ext_getElem?
      intro j
      by_cases hj : i = j
      · subst hj
        by_cases hl : i < σ.length
        · rw [List.getElem?_set_self (by rw [wipe_length, List.length_set]; exact hl), List.getElem?_set_self (by rw [wipe_length]; exact hl)]
        · rw [List.getElem?_eq_none (by rw [List.length_set, wipe_length, List.length_set]; omega), List.getElem?_eq_none (by rw [List.length_set, wipe_length]; omega)]
      · rw [List.getElem?_set_ne hj, List.getElem?_set_ne hj]
        by_cases y : j ∈ vs
        · have key : ∀ (τ : St) (ws : List Nat), j ∈ ws → (wipe τ ws)[j]? = if j < τ.length then some none else none := fun τ ws => by
            induction ws with
            | nil => intro h; exact absurd h (by simp)
            | cons w ws ih =>
              intro h
              unfold wipe
              by_cases z : w = j
              · subst z
                by_cases hl : w < τ.length
                · rw [List.getElem?_set_self (by rw [wipe_length]; exact hl), if_pos hl]
                · rw [List.getElem?_eq_none (by rw [List.length_set, wipe_length]; omega), if_neg hl]
              · rw [List.getElem?_set_ne z]
                rcases List.mem_cons.mp h with y | y
                · exact absurd y.symm z
                · exact ih y
          rw [key _ _ y, key _ _ y, List.length_set]
        · rw [wipe_get _ _ _ y, wipe_get _ _ _ y, List.getElem?_set_ne hj]
/-- a target of the comprehension's own names -/
structure DV (K : Fg) (c : Ctx) (O : List Kd) (vs : List Nat) (g : TG) (mg : MG) : Prop where
  run : ∀ {F H : Hp} {σ : St} {fps : Nat → List Addr} {ds ds' : DS} {v : V} {d : D}, Rel K c O F H σ fps ds → Dp K F v d → mg d ds = some ds' → ∀ Q : St → Hp → Prop,
    (∀ σ' fps', Rel K c O F H σ' fps' ds' → wipe σ' vs = wipe σ vs → Q σ' H) → g v σ H Q
structure DVs (K : Fg) (c : Ctx) (O : List Kd) (vs : List Nat) (g : TGs) (mg : List D → DS → Option DS) : Prop where
  run : ∀ {F H : Hp} {σ : St} {fps : Nat → List Addr} {ds ds' : DS} {us : List V} {es : List D}, Rel K c O F H σ fps ds → DpAll K F us es → mg es ds = some ds' → ∀ Q : St → Hp → Prop,
    (∀ σ' fps', Rel K c O F H σ' fps' ds' → wipe σ' vs = wipe σ vs → Q σ' H) → g us σ H Q
variable {vs : List Nat}
theorem v_name (i : Nat) (hi : O[i]? = some .sh := by rfl) (hv : i ∈ vs := by decide) : DV K c O vs (gName i) (gN i) := ⟨fun {F H σ fps ds ds' v d} r dp e Q q => by
  cases e
  have hl : i < O.length := (List.getElem?_eq_some_iff.mp hi).1
  have r' := r.put hl (by rw [hi]; rfl) (k := .sh) (v := v) (d := d) (fpv := []) ⟨rfl, dp⟩ (fun q hq => absurd hq (by simp)) (by simp)
  have eO : O.set i .sh = O := by
    apply List.ext_getElem?
    intro j
    by_cases z : j = i
    · subst z; rw [List.getElem?_set_self hl, hi]
    · rw [List.getElem?_set_ne (Ne.symm z)]
  rw [eO] at r'
  exact q _ _ r' (wipe_set _ _ _ _ hv)⟩
theorem vs_nil : DVs K c O vs gNil gE := ⟨fun {F H σ fps ds ds' us es} r al e Q q => by
  cases al with
  | nil => cases e; exact ⟨rfl, q _ _ r rfl⟩
  | cons _ _ => cases e⟩
theorem vs_cons {g : TG} {gs : TGs} {a : MG} {b : List D → DS → Option DS} (h1 : DV K c O vs g a) (h2 : DVs K c O vs gs b) : DVs K c O vs (gCons g gs) (gC a b) := ⟨fun {F H σ fps ds ds' us es} r al e Q q => by
  cases al with
  | nil => cases e
  | cons dp al =>
    unfold gC at e
    dsimp only at e
    split at e
    · rename_i s' hs
      exact ⟨_, _, rfl, h1.run r dp hs _ fun σ1 fps1 r1 e1 => h2.run r1 al e Q fun σ2 fps2 r2 e2 => q σ2 fps2 r2 (e2.trans e1)⟩
    · cases e⟩
theorem v_tup {n : Nat} {gs : TGs} {b : List D → DS → Option DS} (h : DVs K c O vs gs b) : DV K c O vs (gTup K n gs) (gT n b) := ⟨fun {F H σ fps ds ds' v d} r dp e Q q => by
  unfold gT at e
  split at e
  · split at e
    · rename_i hn
      cases dp with
      | tup hq al => exact ⟨_, _, rfl, sqT_mono r.sub hq, by rw [dpa_len al]; exact hn, h.run r al e Q q⟩
    · cases e
  · cases e⟩
theorem d_yes : DT K c O tYes mYes := ⟨fun r e Q q => by
  cases e
  exact q _ _ _ (Same.refl _) r⟩
/-- an expression read as a thing of no one's -/
theorem DE.o {te : TE} {m : M D} (h : DE K c O te m) : DO K c O .sh te m := ⟨fun {F H σ fps ds ds' d} r e Q q => h.run r e Q fun F1 H1 fps1 v s r1 dp => q F1 H1 fps1 v [] s r1 ⟨rfl, dp⟩ (fun q hq => absurd hq (by simp)) (by simp)⟩
section
variable {F1 H1 F2 H2 : Hp} {σ1 σ2 : St} {fps1 fps2 : Nat → List Addr} {ds1 ds2 : DS}
/-- what is no one's stays through a part that is seen from here on -/
theorem Rel.out (r2 : Rel K (c.from O F1 H1 fps1) O F2 H2 σ2 fps2 ds2) {q : Addr} (h1 : F1 q = none) (h2 : H1 q ≠ none) (h4 : ∀ i, q ∉ fps1 i) : H2 q = H1 q ∧ F2 q = none ∧ ∀ i, q ∉ fps2 i := by
  have hH : (c.from O F1 H1 fps1).H0 q = H1 q := from_some fun ⟨i, hi, _⟩ => h4 i hi
  refine ⟨?_, ?_, fun i hi => ?_⟩
  · cases z : H1 q with
    | none => exact absurd z h2
    | some o => exact r2.keep q o (by rw [hH]; exact z) fun ⟨i, hi, _⟩ => h4 i hi
  · cases z : F2 q with
    | none => rfl
    | some o =>
      rcases r2.new q o z with h | h
      · have h' : F1 q = some o := h
        rw [h1] at h'; cases h'
      · rw [hH] at h; exact absurd h h2
  · rcases (r2.off i q hi).2.2 with h | ⟨⟨hj, _⟩, _⟩
    · rw [hH] at h; exact h2 h
    · exact h4 i hj
theorem Rel.unfocus' (r : Rel K c O F1 H1 σ1 fps1 ds1) (r2 : Rel K (c.from O F1 H1 fps1) O F2 H2 σ2 fps2 ds2) : Rel K c O F2 H2 σ2 fps2 ds2 := by
  have hn : ∀ b, (c.from O F1 H1 fps1).H0 b = none → c.H0 b = none := fun b h => by
    rcases from_none h with ⟨i, hi, hp⟩ | h
    · rcases (r.off i b hi).2.2 with h | ⟨_, h⟩
      · exact h
      · rw [hp] at h; cases h
    · exact r.live b h
  refine ⟨r2.sub, r.base.trans r2.base, fun b o e n => ?_, fun b e => hn b (r2.live b e), fun b o e => ?_, r2.slots, fun i q hq => ?_, r2.nd, r2.dj, r2.par, r2.len⟩
  · have hb : ∀ i, b ∉ fps1 i := fun i hi => by
      rcases (r.off i b hi).2.2 with h | ⟨h, _⟩
      · rw [h] at e; cases e
      · exact n ⟨_, h⟩
    refine r2.keep b o ?_ (fun ⟨i, hi, _⟩ => hb i hi)
    rw [from_some (fun ⟨i, hi, _⟩ => hb i hi)]
    exact r.keep b o e n
  · rcases r2.new b o e with h | h
    · exact r.new b o h
    · exact .inr (hn b h)
  · obtain ⟨h1, h2, h3⟩ := r2.off i q hq
    refine ⟨h1, h2, ?_⟩
    rcases h3 with h3 | ⟨⟨hj, _⟩, h3⟩
    · exact .inl (hn q h3)
    · exact (r.off i q hj).2.2
/-- a thing of no one's is written -/
theorem Rel.updO (r : Rel K c O F1 H1 σ1 fps1 ds1) {p : Addr} (hF : F1 p = none) (h0 : c.H0 p = none) (hq : ∀ i, p ∉ fps1 i) (o : HO) : Rel K c O F1 (upd H1 p o) σ1 fps1 ds1 := by
  refine ⟨fun b u e => ?_, r.base, fun b u e n => ?_, fun b e => ?_, r.new, fun i d e => ?_, fun i q hqi => ?_, r.nd, r.dj, r.par, r.len⟩
  · rw [upd_ne (ne_of_none e hF)]; exact r.sub b u e
  · have hb : b ≠ p := fun z => by subst z; rw [h0] at e; cases e
    rw [upd_ne hb]; exact r.keep b u e n
  · by_cases hb : b = p
    · subst hb; rw [upd_same] at e; cases e
    · rw [upd_ne hb] at e; exact r.live b e
  · obtain ⟨v, hv, ho⟩ := r.slots i d e
    exact ⟨v, hv, ow_mono (Same.refl _) ho fun q hq' => upd_ne fun z => by subst z; exact hq i hq'⟩
  · obtain ⟨a, b, cc⟩ := r.off i q hqi
    have hb : q ≠ p := fun z => by subst z; exact hq i hqi
    rw [upd_ne hb]; exact ⟨a, b, cc⟩
/-- the comprehension's own names forgotten -/
theorem Rel.wiped (r : Rel K c O F1 H1 σ1 fps1 ds1) (hv : ∀ v ∈ vs, O[v]? = some .sh) : Rel K c O F1 H1 (wipe σ1 vs) fps1 (wipeD ds1 vs) := by
  refine ⟨r.sub, r.base, r.keep, r.live, r.new, fun i d e => ?_, r.off, r.nd, r.dj, fun i k h => ?_, by rw [wipe_length, wipeD_len]; exact r.len⟩
  · have hi := wipeD_in _ _ _ _ e
    rw [wipeD_get _ _ _ hi] at e
    rw [wipe_get _ _ _ hi]
    exact r.slots i d e
  · obtain ⟨a, b⟩ := r.par i k h
    refine ⟨a, ?_⟩
    rw [wipe_get _ _ _ fun hi => by rw [hv i hi] at a; cases a]
    exact b
/-- .. and known again -/
theorem Rel.backed (r1 : Rel K c O F1 H1 σ1 fps1 ds1) (r2 : Rel K c O F2 H2 σ2 fps2 ds2) (e : wipe σ2 vs = wipe σ1 vs) (s : Same F1 F2) (hv : ∀ v ∈ vs, O[v]? = some .sh) : Rel K c O F2 H2 σ1 (fun j => if j ∈ vs then [] else fps2 j) (back ds1 ds2 vs) := by
  have eg : ∀ i, i ∉ vs → σ2[i]? = σ1[i]? := fun i h => by rw [← wipe_get σ2 vs i h, e, wipe_get σ1 vs i h]
  have sub : ∀ i q, q ∈ (if i ∈ vs then [] else fps2 i) → q ∈ fps2 i := fun i q h => by
    by_cases z : i ∈ vs
    · rw [if_pos z] at h; exact absurd h (by simp)
    · rw [if_neg z] at h; exact h
  refine ⟨r2.sub, r2.base, r2.keep, r2.live, r2.new, fun i d ed => ?_, fun i q hq => r2.off i q (sub i q hq), fun i => ?_, fun i j hij q hq hq' => r2.dj i j hij q (sub i q hq) (sub j q hq'), fun i k h => ?_, ?_⟩
  · by_cases z : i ∈ vs
    · have e1 := back_in _ _ _ _ _ z ed
      obtain ⟨v, hv', ow⟩ := r1.slots i d e1
      refine ⟨v, hv', ?_⟩
      have hk : O.getD i .sh = .sh := by rw [List.getD_eq_getElem?_getD, hv i z]; rfl
      rw [hk] at ow ⊢
      simp only [if_pos z]
      exact ⟨rfl, dp_mono s ow.2⟩
    · rw [back_get _ _ _ _ z] at ed
      obtain ⟨v, hv', ow⟩ := r2.slots i d ed
      rw [eg i z] at hv'
      refine ⟨v, hv', ?_⟩
      simp only [if_neg z]
      exact ow
  · by_cases z : i ∈ vs
    · simp only [if_pos z]; simp
    · simp only [if_neg z]; exact r2.nd i
  · exact r1.par i k h
  · rw [back_len, ← r2.len, ← wipe_length σ1 vs, ← wipe_length σ2 vs, e]
end
/-- the list that a comprehension makes, so far -/
structure Acc (K : Fg) (c : Ctx) (k : Kd) (F H : Hp) (fps : Nat → List Addr) (p : Addr) (acc : List V) (ys : List D) (fs : List (List Addr)) : Prop where
  at_ : H p = some (.lst acc)
  off : ∀ q ∈ p :: fs.flatten, F q = none ∧ H q ≠ none ∧ c.H0 q = none ∧ ∀ i, q ∉ fps i
  al : All3 (Ow K F H k) acc ys fs
  nd : (p :: fs.flatten).Nodup
theorem All3.snoc {α β γ : Type} {P : α → β → γ → Prop} {a : α} {b : β} {d : γ} (h : P a b d) : ∀ {xs ys zs}, All3 P xs ys zs → All3 P (xs ++ [a]) (ys ++ [b]) (zs ++ [d])
  | _, _, _, .nil => .cons h .nil
  | _, _, _, .cons p t => .cons p (t.snoc h)
theorem Acc.step {k : Kd} {F1 H1 F2 H2 : Hp} {σ2 : St} {fps1 fps2 : Nat → List Addr} {ds2 : DS} {p : Addr} {acc : List V} {ys : List D} {fs : List (List Addr)} (a : Acc K c k F1 H1 fps1 p acc ys fs)
    (s : Same F1 F2) (r2 : Rel K (c.from O F1 H1 fps1) O F2 H2 σ2 fps2 ds2) : Acc K c k F2 H2 fps2 p acc ys fs := by
  have o := fun q hq => r2.out (a.off q hq).1 (a.off q hq).2.1 (a.off q hq).2.2.2
  refine ⟨by rw [(o p List.mem_cons_self).1]; exact a.at_, fun q hq => ⟨(o q hq).2.1, by rw [(o q hq).1]; exact (a.off q hq).2.1, (a.off q hq).2.2.1, (o q hq).2.2⟩, ?_, a.nd⟩
  exact a.al.imp fun x y z hz ow => ow_mono s ow fun q hq => (o q (List.mem_cons_of_mem _ (List.mem_flatten.mpr ⟨z, hz, hq⟩))).1
theorem o_lc {k : Kd} {wi : TI} {mi : M (List D)} {g : TG} {mg : MG} {tt : TT} {mt : M Bool} {te : TE} {me : M D} (hi : DI K c O wi mi) (hg : ∀ c' : Ctx, DV K c' O vs g mg) (ht : ∀ c' : Ctx, DT K c' O tt mt) (he : ∀ c' : Ctx, DO K c' O k te me)
    (hv : ∀ v ∈ vs, O[v]? = some .sh) : DO K c O (.ls k) (tLc wi g tt te vs) (mLc mi mg mt me vs) := ⟨fun {F H σ fps ds ds' d} r e Q q => by
  unfold mLc at e
  cases e1 : mi ds with
  | no => rw [e1] at e; cases e
  | ok xs s1 =>
    rw [e1] at e
    dsimp only at e
    cases e2 : lcl mg mt me vs xs (wipeD s1 vs) with
    | no => rw [e2] at e; cases e
    | ok ys s2 =>
      rw [e2] at e
      dsimp only at e
      split at e
      · rename_i hf
        cases e
        have hfit := fits_of hf
        refine hi.run r e1 _ fun F1 H1 fps1 J sF r1 wk => ?_
        intro p hp
        obtain ⟨pF, p0, pq⟩ := r1.fresh hp
        have r1' := (r1.allocO hp (.lst [])).wiped hv
        refine ⟨fun i m Hc => m + i = xs.length ∧ ∃ Fc fpc dc acc yc fs rest, Same F1 Fc ∧ Rel K c O Fc Hc (wipe σ vs) fpc dc ∧ Acc K c k Fc Hc fpc p acc yc fs ∧ lcl mg mt me vs (xs.drop i) dc = .ok rest s2 ∧ yc ++ rest = ys,
          ⟨xs.length, by omega, F1, fps1, _, [], [], [], ys, Same.refl _, r1', ⟨upd_same, fun q hq => ?_, .nil, by simp⟩, by rw [List.drop_zero]; exact e2, by simp⟩, ?_⟩
        · have : q = p := by simpa using hq
          subst this
          exact ⟨pF, by rw [upd_same]; simp, p0, pq⟩
        rintro i m Hc ⟨hm, Fc, fpc, dc, acc, yc, fs, rest, sc, rc, ac, el, ey⟩
        obtain ⟨w1, w2⟩ := wk Fc Hc i sc rc.sub
        cases hx : xs[i]? with
        | none =>
          have hl : xs.length ≤ i := List.getElem?_eq_none_iff.mp hx
          refine .inl ⟨w2 (by omega), ?_⟩
          rw [List.drop_of_length_le hl] at el
          unfold lcl at el
          cases el
          rw [List.append_nil] at ey
          subst ey
          refine q Fc Hc _ (.ref p) (p :: fs.flatten) (sF.trans sc) (r1.backed rc (wipe_wipe _ _) sc hv) ⟨p, acc, yc, fs, rfl, rfl, ac.at_, rfl, ac.al⟩ (fun q' hq' => ?_) ac.nd
          obtain ⟨a1, a2, a3, a4⟩ := ac.off q' hq'
          refine ⟨a1, a2, a3, fun j => ?_⟩
          by_cases z : j ∈ vs
          · simp only [if_pos z]; simp
          · simp only [if_neg z]; exact a4 j
        | some d0 =>
          obtain ⟨go, yl⟩ := w1 d0 hx
          have hlt : i < xs.length := (List.getElem?_eq_some_iff.mp hx).1
          have hd : xs.drop i = d0 :: xs.drop (i + 1) := by
            rw [List.drop_eq_getElem_cons hlt]
            congr 1
            rw [List.getElem?_eq_getElem hlt] at hx
            exact Option.some.inj hx
          rw [hd] at el
          unfold lcl at el
          refine .inr ⟨go, fun Hn => ∃ Fc fpc dc acc yc fs rest, Same F1 Fc ∧ Rel K c O Fc Hn (wipe σ vs) fpc dc ∧ Acc K c k Fc Hn fpc p acc yc fs ∧ lcl mg mt me vs (xs.drop (i + 1)) dc = .ok rest s2 ∧ yc ++ rest = ys, fun Hn h => ⟨m - 1, by omega, by omega, h⟩, fun x H3 hy => ?_⟩
          have rf := rc.focus
          obtain ⟨F3, gr, dp⟩ := yl x H3 hy
          obtain ⟨r3, s3⟩ := gr.rel rf
          split at el
          · cases el
          · rename_i s4 hs4
            refine (hg _).run r3 dp hs4 _ fun σ4 fps4 r4 e4 => ⟨by rw [e4, wipe_wipe], ?_⟩
            have e4' : wipe σ4 vs = wipe σ vs := by rw [e4, wipe_wipe]
            cases e5 : mt s4 with
            | no => rw [e5] at el; cases el
            | ok b s5 =>
              rw [e5] at el
              refine (ht _).run r4 e5 _ fun F5 H5 fps5 sF5 r5 => ?_
              cases b with
              | false =>
                refine iteF ?_
                have hs : Same Fc F5 := s3.trans sF5
                have r6 := (rc.unfocus' r5).wiped hv
                rw [e4'] at r6
                exact ⟨F5, fps5, _, acc, yc, fs, rest, sc.trans hs, r6, ac.step hs r5, el, ey⟩
              | true =>
                refine iteT ?_
                dsimp only at el
                cases e6 : me s5 with
                | no => rw [e6] at el; cases el
                | ok y s6 =>
                  rw [e6] at el
                  dsimp only at el
                  cases e7 : lcl mg mt me vs (xs.drop (i + 1)) (wipeD s6 vs) with
                  | no => rw [e7] at el; cases el
                  | ok rs s7 =>
                    rw [e7] at el
                    cases el
                    refine (he _).run r5 e6 _ fun F6 H6 fps6 u fpu sF6 r6 ow hfu ndu => ?_
                    have hs : Same Fc F6 := (s3.trans sF5).trans sF6
                    have a6 := ac.step hs r6
                    have r7 := rc.unfocus' r6
                    have hl : acc.length = yc.length := ac.al.len.1
                    refine ⟨acc, a6.at_, ?_, ?_⟩
                    · rw [hl]
                      have : yc.length + (y :: rs).length = ys.length := by rw [← ey, List.length_append]
                      rw [List.length_cons] at this
                      omega
                    · obtain ⟨pF6, pH6, p06, pq6⟩ := a6.off p List.mem_cons_self
                      have r8 := (r7.updO pF6 p06 pq6 (.lst (acc ++ [u]))).wiped hv
                      rw [e4'] at r8
                      have hpu : p ∉ fpu := fun z => by
                        have := (hfu p z).2.2.1
                        have hh : (c.from O Fc Hc fpc).H0 p = Hc p := from_some fun ⟨i, hi, _⟩ => (ac.off p List.mem_cons_self).2.2.2 i hi
                        rw [hh] at this
                        exact (ac.off p List.mem_cons_self).2.1 this
                      have hfr : ∀ q ∈ fs.flatten, q ∉ fpu := fun q hq z => by
                        have := (hfu q z).2.2.1
                        have hh : (c.from O Fc Hc fpc).H0 q = Hc q := from_some fun ⟨i, hi, _⟩ => (ac.off q (List.mem_cons_of_mem _ hq)).2.2.2 i hi
                        rw [hh] at this
                        exact (ac.off q (List.mem_cons_of_mem _ hq)).2.1 this
                      have hpf : p ∉ fs.flatten := (List.nodup_cons.mp ac.nd).1
                      refine ⟨F6, fps6, _, acc ++ [u], yc ++ [y], fs ++ [fpu], rs, sc.trans hs, r8, ⟨upd_same, fun q hq => ?_, ?_, ?_⟩, e7, by rw [List.append_assoc]; exact ey⟩
                      · rcases List.mem_cons.mp hq with z | hq
                        · subst z
                          exact ⟨pF6, by rw [upd_same]; simp, p06, pq6⟩
                        · rw [List.flatten_append, List.mem_append] at hq
                          rcases hq with hq | hq
                          · obtain ⟨b1, b2, b3, b4⟩ := a6.off q (List.mem_cons_of_mem _ hq)
                            have hne : q ≠ p := fun z => hpf (z ▸ hq)
                            exact ⟨b1, by rw [upd_ne hne]; exact b2, b3, b4⟩
                          · have hq : q ∈ fpu := by simpa using hq
                            obtain ⟨b1, b2, b3, b4⟩ := hfu q hq
                            have hne : q ≠ p := fun z => hpu (z ▸ hq)
                            refine ⟨b1, by rw [upd_ne hne]; exact b2, ?_, b4⟩
                            rcases from_none b3 with ⟨j, hj, hpm⟩ | h
                            · rcases (rc.off j q hj).2.2 with h | ⟨_, h⟩
                              · exact h
                              · rw [hpm] at h; cases h
                            · exact rc.live q h
                      · refine All3.snoc ?_ (a6.al.imp fun x1 y1 z1 hz1 ow1 => ow_mono (Same.refl _) ow1 fun q hq => upd_ne fun z => hpf (z ▸ List.mem_flatten.mpr ⟨z1, hz1, hq⟩))
                        exact ow_mono (Same.refl _) ow fun q hq => upd_ne fun z => hpu (z ▸ hq)
                      · rw [List.flatten_append]
                        have e9 : [fpu].flatten = fpu := by simp
                        rw [e9]
                        refine List.nodup_cons.mpr ⟨fun z => ?_, ?_⟩
                        · rcases List.mem_append.mp z with z | z
                          · exact hpf z
                          · exact hpu z
                        · exact List.nodup_append.mpr ⟨(List.nodup_cons.mp ac.nd).2, ndu, fun a ha b hb z => hfr a ha (z ▸ hb)⟩
      · cases e⟩
end
end Z
set_option Elab.async false
set_option linter.all false
set_option maxRecDepth 100000
namespace Z
open PySem L2
/-! ### comprehensions over a list of one's own, that stays so -/
def lclS (j : Nat) (g : MG) (t : M Bool) (e : M D) (vs : List Nat) : Nat → Nat → DS → R (List D)
  | 0, i, s => match s[j]? with
    | some (some (.list ys)) => if ys.length ≤ i then .ok [] s else .no
    | _ => .no
  | n + 1, i, s => match s[j]? with
    | some (some (.list ys)) => match ys[i]? with
      | none => .no
      | some x => match g x s with
        | none => .no
        | some s2 => match t s2 with
          | .no => .no
          | .ok false s3 => lclS j g t e vs n (i + 1) (wipeD s3 vs)
          | .ok true s3 => match e s3 with
            | .no => .no
            | .ok y s4 => match lclS j g t e vs n (i + 1) (wipeD s4 vs) with
              | .ok ys s5 => .ok (y :: ys) s5
              | .no => .no
    | _ => .no
def mLcS (j : Nat) (g : MG) (t : M Bool) (e : M D) (vs : List Nat) : M D := fun s => match s[j]? with
  | some (some (.list zs)) => match lclS j g t e vs zs.length 0 (wipeD s vs) with
    | .no => .no
    | .ok ys s2 => if fits ys.length then .ok (.list ys) (back s s2 vs) else .no
  | _ => .no
section
variable {K : Fg} {c : Ctx} {O : List Kd} {vs : List Nat}
theorem own_at {F H : Hp} {σ : St} {fps : Nat → List Addr} {ds : DS} {j : Nat} {ys : List D} (r : Rel K c O F H σ fps ds) (hk : lsish (O.getD j .sh) = true) (h : ds[j]? = some (some (.list ys))) :
    ∃ p xs, σ[j]? = some (some (.ref p)) ∧ H p = some (.lst xs) ∧ DpAll K F xs ys := by
  obtain ⟨v, hv, ow⟩ := r.slots j _ h
  obtain ⟨p, xs, ds', rfl, e, hp, _, al⟩ := ow_ls hk ow
  cases e
  exact ⟨p, xs, hv, hp, al⟩
theorem o_lcS {k : Kd} (j : Nat) {g : TG} {mg : MG} {tt : TT} {mt : M Bool} {te : TE} {me : M D} (hg : ∀ c' : Ctx, DV K c' O vs g mg) (ht : ∀ c' : Ctx, DT K c' O tt mt) (he : ∀ c' : Ctx, DO K c' O k te me)
    (hv : ∀ v ∈ vs, O[v]? = some .sh) (hj : j ∉ vs := by decide) (hk : lsish (O.getD j .sh) = true := by rfl) : DO K c O (.ls k) (tLc (iSeq K (tVar j)) g tt te vs) (mLcS j mg mt me vs) := ⟨fun {F H σ fps ds ds' d} r e Q q => by
  unfold mLcS at e
  split at e
  · rename_i zs hz
    cases e2 : lclS j mg mt me vs zs.length 0 (wipeD ds vs) with
    | no => rw [e2] at e; cases e
    | ok ys s2 =>
      rw [e2] at e
      dsimp only at e
      split at e
      · rename_i hf
        cases e
        have hfit := fits_of hf
        obtain ⟨a, xs0, ha, hp0, _⟩ := own_at r hk hz
        refine .inl ⟨_, ha, a, rfl, ⟨xs0, SqL.of hp0⟩, fun p hp => ?_⟩
        obtain ⟨pF, p0, pq⟩ := r.fresh hp
        have r1' := (r.allocO hp (.lst [])).wiped hv
        have wj : ∀ τ : St, wipe τ vs = wipe σ vs → τ[j]? = some (some (.ref a)) := fun τ h => by rw [← wipe_get τ vs j hj, h, wipe_get σ vs j hj]; exact ha
        refine ⟨fun i m Hc => ∃ Fc fpc dc acc yc fs rest, Same F Fc ∧ Rel K c O Fc Hc (wipe σ vs) fpc dc ∧ Acc K c k Fc Hc fpc p acc yc fs ∧ lclS j mg mt me vs m i dc = .ok rest s2 ∧ yc ++ rest = ys,
          ⟨zs.length, F, fps, _, [], [], [], ys, Same.refl _, r1', ⟨upd_same, fun q hq => ?_, .nil, by simp⟩, e2, by simp⟩, ?_⟩
        · have : q = p := by simpa using hq
          subst this
          exact ⟨pF, by rw [upd_same]; simp, p0, pq⟩
        rintro i m Hc ⟨Fc, fpc, dc, acc, yc, fs, rest, sc, rc, ac, el, ey⟩
        cases m with
        | zero =>
          unfold lclS at el
          split at el
          · rename_i ws hw
            split at el
            · rename_i hle
              cases el
              obtain ⟨a', xs', ha', hpa, al⟩ := own_at rc hk hw
              rw [wj _ (wipe_wipe _ _)] at ha'
              cases ha'
              refine .inl ⟨⟨xs', SqL.of hpa, by rw [dpa_len al]; exact hle⟩, ?_⟩
              rw [List.append_nil] at ey
              subst ey
              refine q Fc Hc _ (.ref p) (p :: fs.flatten) sc (r.backed rc (wipe_wipe _ _) sc hv) ⟨p, acc, yc, fs, rfl, rfl, ac.at_, rfl, ac.al⟩ (fun q' hq' => ?_) ac.nd
              obtain ⟨a1, a2, a3, a4⟩ := ac.off q' hq'
              refine ⟨a1, a2, a3, fun j => ?_⟩
              by_cases z : j ∈ vs
              · simp only [if_pos z]; simp
              · simp only [if_neg z]; exact a4 j
            · cases el
          · cases el
        | succ n =>
          unfold lclS at el
          split at el
          · rename_i ws hw
            split at el
            · cases el
            · rename_i d0 hx
              obtain ⟨a', xs', ha', hpa, al⟩ := own_at rc hk hw
              rw [wj _ (wipe_wipe _ _)] at ha'
              cases ha'
              obtain ⟨v0, hv0, dp0⟩ := dpa_get al hx
              refine .inr ⟨⟨xs', v0, SqL.of hpa, hv0⟩, fun Hn => ∃ Fc fpc dc acc yc fs rest, Same F Fc ∧ Rel K c O Fc Hn (wipe σ vs) fpc dc ∧ Acc K c k Fc Hn fpc p acc yc fs ∧ lclS j mg mt me vs n (i + 1) dc = .ok rest s2 ∧ yc ++ rest = ys, fun Hn h => ⟨n, by omega, h⟩, fun x H3 hy => ?_⟩
              obtain ⟨e3, hy⟩ := hy
              subst e3
              have hxv := hy xs' (SqL.of hpa)
              rw [hv0] at hxv
              cases hxv
              have rf := rc.focus
              split at el
              · cases el
              · rename_i s4 hs4
                refine (hg _).run rf dp0 hs4 _ fun σ4 fps4 r4 e4 => ⟨by rw [e4, wipe_wipe], ?_⟩
                have e4' : wipe σ4 vs = wipe σ vs := by rw [e4, wipe_wipe]
                cases e5 : mt s4 with
                | no => rw [e5] at el; cases el
                | ok b s5 =>
                  rw [e5] at el
                  refine (ht _).run r4 e5 _ fun F5 H5 fps5 sF5 r5 => ?_
                  cases b with
                  | false =>
                    refine iteF ?_
                    have r6 := (rc.unfocus' r5).wiped hv
                    rw [e4'] at r6
                    exact ⟨F5, fps5, _, acc, yc, fs, rest, sc.trans sF5, r6, ac.step sF5 r5, el, ey⟩
                  | true =>
                    refine iteT ?_
                    dsimp only at el
                    cases e6 : me s5 with
                    | no => rw [e6] at el; cases el
                    | ok y s6 =>
                      rw [e6] at el
                      dsimp only at el
                      cases e7 : lclS j mg mt me vs n (i + 1) (wipeD s6 vs) with
                      | no => rw [e7] at el; cases el
                      | ok rs s7 =>
                        rw [e7] at el
                        cases el
                        refine (he _).run r5 e6 _ fun F6 H6 fps6 u fpu sF6 r6 ow hfu ndu => ?_
                        have hs : Same Fc F6 := sF5.trans sF6
                        have a6 := ac.step hs r6
                        have r7 := rc.unfocus' r6
                        have hl : acc.length = yc.length := ac.al.len.1
                        refine ⟨acc, a6.at_, ?_, ?_⟩
                        · rw [hl]
                          have : yc.length + (y :: rs).length = ys.length := by rw [← ey, List.length_append]
                          rw [List.length_cons] at this
                          omega
                        · obtain ⟨pF6, pH6, p06, pq6⟩ := a6.off p List.mem_cons_self
                          have r8 := (r7.updO pF6 p06 pq6 (.lst (acc ++ [u]))).wiped hv
                          rw [e4'] at r8
                          have hpu : p ∉ fpu := fun z => by
                            have := (hfu p z).2.2.1
                            have hh : (c.from O Fc H3 fpc).H0 p = H3 p := from_some fun ⟨i, hi, _⟩ => (ac.off p List.mem_cons_self).2.2.2 i hi
                            rw [hh] at this
                            exact (ac.off p List.mem_cons_self).2.1 this
                          have hfr : ∀ q ∈ fs.flatten, q ∉ fpu := fun q hq z => by
                            have := (hfu q z).2.2.1
                            have hh : (c.from O Fc H3 fpc).H0 q = H3 q := from_some fun ⟨i, hi, _⟩ => (ac.off q (List.mem_cons_of_mem _ hq)).2.2.2 i hi
                            rw [hh] at this
                            exact (ac.off q (List.mem_cons_of_mem _ hq)).2.1 this
                          have hpf : p ∉ fs.flatten := (List.nodup_cons.mp ac.nd).1
                          refine ⟨F6, fps6, _, acc ++ [u], yc ++ [y], fs ++ [fpu], rs, sc.trans hs, r8, ⟨upd_same, fun q hq => ?_, ?_, ?_⟩, e7, by rw [List.append_assoc]; exact ey⟩
                          · rcases List.mem_cons.mp hq with z | hq
                            · subst z
                              exact ⟨pF6, by rw [upd_same]; simp, p06, pq6⟩
                            · rw [List.flatten_append, List.mem_append] at hq
                              rcases hq with hq | hq
                              · obtain ⟨b1, b2, b3, b4⟩ := a6.off q (List.mem_cons_of_mem _ hq)
                                have hne : q ≠ p := fun z => hpf (z ▸ hq)
                                exact ⟨b1, by rw [upd_ne hne]; exact b2, b3, b4⟩
                              · have hq : q ∈ fpu := by simpa using hq
                                obtain ⟨b1, b2, b3, b4⟩ := hfu q hq
                                have hne : q ≠ p := fun z => hpu (z ▸ hq)
                                refine ⟨b1, by rw [upd_ne hne]; exact b2, ?_, b4⟩
                                rcases from_none b3 with ⟨j, hj, hpm⟩ | h
                                · rcases (rc.off j q hj).2.2 with h | ⟨_, h⟩
                                  · exact h
                                  · rw [hpm] at h; cases h
                                · exact rc.live q h
                          · refine All3.snoc ?_ (a6.al.imp fun x1 y1 z1 hz1 ow1 => ow_mono (Same.refl _) ow1 fun q hq => upd_ne fun z => hpf (z ▸ List.mem_flatten.mpr ⟨z1, hz1, hq⟩))
                            exact ow_mono (Same.refl _) ow fun q hq => upd_ne fun z => hpu (z ▸ hq)
                          · rw [List.flatten_append]
                            have e9 : [fpu].flatten = fpu := by simp
                            rw [e9]
                            refine List.nodup_cons.mpr ⟨fun z => ?_, ?_⟩
                            · rcases List.mem_append.mp z with z | z
                              · exact hpf z
                              · exact hpu z
                            · exact List.nodup_append.mpr ⟨(List.nodup_cons.mp ac.nd).2, ndu, fun a ha b hb z => hfr a ha (z ▸ hb)⟩
          · cases el
      · cases e
  · cases e⟩
end
/-! ### run -/
def Lc0 (g : MG) (t : M Bool) (e : M D) (vs : List Nat) (xs : List D) (s : DS) (Q : List D → DS → Prop) : Prop := match lcl g t e vs xs s with
  | .ok ys s' => Q ys s'
  | .no => False
@[irreducible] def Lc (xs : List D) (s : DS) (g : MG) (t : M Bool) (e : M D) (vs : List Nat) (Q : List D → DS → Prop) (_ : W5 g t e vs Q := Unit.unit) : Prop := Lc0 g t e vs xs s Q
theorem ev_lc_0 {mi : M (List D)} {g : MG} {t : M Bool} {e : M D} {vs : List Nat} {s : DS} {Q : D → DS → Prop} : Ev0 (mLc mi g t e vs) s Q = Ev0 mi s fun xs s1 => Lc0 g t e vs xs (wipeD s1 vs) fun ys s2 => fits ys.length = true ∧ Q (.list ys) (back s1 s2 vs) := by
  unfold Ev0 mLc Lc0
  cases mi s with
  | no => rfl
  | ok xs s1 =>
    dsimp only
    cases lcl g t e vs xs (wipeD s1 vs) with
    | no => rfl
    | ok ys s2 =>
      dsimp only
      cases fits ys.length <;> simp
theorem ev_lc {mi : M (List D)} {g : MG} {t : M Bool} {e : M D} {vs : List Nat} {s : DS} {Q : D → DS → Prop} : Ev (mLc mi g t e vs) s Q = Ev mi s fun xs s1 => Lc xs (wipeD s1 vs) g t e vs fun ys s2 => fits ys.length = true ∧ Q (.list ys) (back s1 s2 vs) := by with_unfolding_all exact ev_lc_0
theorem ev_yes {s : DS} {Q : Bool → DS → Prop} : Ev mYes s Q = Q true s := by with_unfolding_all exact nr rfl
theorem lc_by {xs : List D} {s : DS} {g : MG} {t : M Bool} {e : M D} {vs : List Nat} {Q : List D → DS → Prop} (I : Nat → List D → DS → Prop) (h0 : I 0 [] s)
    (ht : ∀ i d ys s1, xs[i]? = some d → I i ys s1 → So (g d s1) fun s2 => Ev t s2 fun b s3 => Br b (Ev e s3 fun y s4 => I (i + 1) (ys ++ [y]) (wipeD s4 vs)) (I (i + 1) ys (wipeD s3 vs))) (he : ∀ ys s1, I xs.length ys s1 → Q ys s1) : Lc xs s g t e vs Q := by
  have key : ∀ (n i : Nat) (ys : List D) (s1 : DS), n + i = xs.length → I i ys s1 → Lc0 g t e vs (xs.drop i) s1 fun zs s2 => Q (ys ++ zs) s2 := fun n => by
    induction n with
    | zero =>
      intro i ys s1 hn hI
      have : i = xs.length := by omega
      subst this
      rw [List.drop_of_length_le (Nat.le_refl _)]
      unfold Lc0 lcl
      dsimp only
      rw [List.append_nil]
      exact he ys s1 hI
    | succ n ih =>
      intro i ys s1 hn hI
      have hlt : i < xs.length := by omega
      rw [List.drop_eq_getElem_cons hlt]
      have h := ht i xs[i] ys s1 (List.getElem?_eq_getElem hlt) hI
      have h : So0 (g xs[i] s1) fun s2 => Ev0 t s2 fun b s3 => Br0 b (Ev0 e s3 fun y s4 => I (i + 1) (ys ++ [y]) (wipeD s4 vs)) (I (i + 1) ys (wipeD s3 vs)) := by with_unfolding_all exact h
      unfold Lc0 lcl
      unfold So0 at h
      cases eg : g xs[i] s1 with
      | none => rw [eg] at h; exact h
      | some s2 =>
        rw [eg] at h
        dsimp only at h ⊢
        unfold Ev0 at h
        cases et : t s2 with
        | no => rw [et] at h; exact h
        | ok b s3 =>
          rw [et] at h
          cases b with
          | false => exact ih (i + 1) ys (wipeD s3 vs) (by omega) (by simpa [Br0] using h)
          | true =>
            dsimp only at h ⊢
            cases ee : e s3 with
            | no => rw [ee] at h; simp [Br0] at h
            | ok y s4 =>
              rw [ee] at h
              have h : I (i + 1) (ys ++ [y]) (wipeD s4 vs) := by simpa [Br0] using h
              have := ih (i + 1) (ys ++ [y]) (wipeD s4 vs) (by omega) h
              unfold Lc0 at this
              dsimp only
              cases el : lcl g t e vs (xs.drop (i + 1)) (wipeD s4 vs) with
              | no => rw [el] at this; exact this
              | ok zs s5 =>
                rw [el] at this
                dsimp only at this ⊢
                rw [List.append_assoc] at this
                exact this
  have := key xs.length 0 [] s (by omega) h0
  with_unfolding_all exact this
/-- a comprehension that changes nothing -/
theorem lc_map {xs : List D} {s : DS} {g : MG} {t : M Bool} {e : M D} {vs : List Nat} {Q : List D → DS → Prop} (f : D → Option D)
    (ht : ∀ d ∈ xs, So (g d s) fun s2 => Ev t s2 fun b s3 => Br b (Ev e s3 fun y s4 => f d = some y ∧ wipeD s4 vs = s) (f d = none ∧ wipeD s3 vs = s)) (he : Q (xs.filterMap f) s) : Lc xs s g t e vs Q := by
  refine lc_by (fun i ys s1 => s1 = s ∧ ys = (xs.take i).filterMap f) ⟨rfl, by simp⟩ (fun i d ys s1 hd hI => ?_) fun ys s1 hI => ?_
  · obtain ⟨rfl, rfl⟩ := hI
    have hx : xs.take (i + 1) = xs.take i ++ [d] := by rw [List.take_add_one, hd]; rfl
    have h := ht d (List.mem_of_getElem? hd)
    have conv : ∀ {o : Option DS} {P P' : DS → Prop}, So o P → (∀ a, P a → P' a) → So o P' := fun {o P P'} h f => by
      have h : So0 o P := by with_unfolding_all exact h
      have : So0 o P' := by
        unfold So0 at h ⊢
        cases o with
        | none => exact h
        | some a => exact f a h
      with_unfolding_all exact this
    refine conv h fun s2 h => ev_mono h fun b s3 h => br_i (fun hb => ?_) fun hb => ?_
    · subst hb
      rw [br_t] at h
      refine ev_mono h fun y s4 h => ⟨h.2, ?_⟩
      rw [hx, List.filterMap_append]
      simp [h.1]
    · subst hb
      rw [br_f] at h
      refine ⟨h.2, ?_⟩
      rw [hx, List.filterMap_append]
      simp [h.1]
  · obtain ⟨rfl, rfl⟩ := hI
    rw [List.take_length]
    exact he
theorem wpD0 {s : DS} : wipeD s [] = s := nr rfl
theorem wpDC {s : DS} {v : Nat} {vs : List Nat} : wipeD s (v :: vs) = (wipeD s vs).set v none := nr rfl
theorem bk0 {s1 s2 : DS} : back s1 s2 [] = s2 := nr rfl
def oat (s : DS) (v : Nat) : Option D := s[v]?.getD none
theorem bkC {s1 s2 : DS} {v : Nat} {vs : List Nat} : back s1 s2 (v :: vs) = (back s1 s2 vs).set v (oat s1 v) := nr rfl
theorem oat0 {x : Option D} {s : DS} : oat (x :: s) 0 = x := nr rfl
theorem oatS {x : Option D} {s : DS} {n : Nat} : oat (x :: s) (n + 1) = oat s n := nr rfl
/-- .. of one's own -/
theorem lcS_map {j : Nat} {xs : List D} {s : DS} {g : MG} {t : M Bool} {e : M D} {vs : List Nat} {Q : D → DS → Prop} (f : D → Option D) (hj : look s j = some (.list xs)) (hn : j ∉ vs)
    (ht : ∀ d ∈ xs, So (g d (wipeD s vs)) fun s2 => Ev t s2 fun b s3 => Br b (Ev e s3 fun y s4 => f d = some y ∧ wipeD s4 vs = wipeD s vs) (f d = none ∧ wipeD s3 vs = wipeD s vs))
    (hf : fits (xs.filterMap f).length = true) (he : Q (.list (xs.filterMap f)) (back s (wipeD s vs) vs)) : Ev (mLcS j g t e vs) s Q := by
  have hj1 : s[j]? = some (some (.list xs)) := look_some hj
  have hj2 : (wipeD s vs)[j]? = some (some (.list xs)) := by rw [wipeD_get _ _ _ hn]; exact hj1
  have key : ∀ (n i : Nat), n + i = xs.length → lclS j g t e vs n i (wipeD s vs) = .ok ((xs.drop i).filterMap f) (wipeD s vs) := fun n => by
    induction n with
    | zero =>
      intro i hi
      unfold lclS
      rw [hj2, List.drop_of_length_le (by omega)]
      simp only
      rw [if_pos (by omega)]
      rfl
    | succ n ih =>
      intro i hi
      have hlt : i < xs.length := by omega
      have h := ht xs[i] (List.getElem_mem hlt)
      have h : So0 (g xs[i] (wipeD s vs)) fun s2 => Ev0 t s2 fun b s3 => Br0 b (Ev0 e s3 fun y s4 => f xs[i] = some y ∧ wipeD s4 vs = wipeD s vs) (f xs[i] = none ∧ wipeD s3 vs = wipeD s vs) := by with_unfolding_all exact h
      unfold lclS
      rw [hj2, List.drop_eq_getElem_cons hlt, List.filterMap_cons]
      simp only
      rw [List.getElem?_eq_getElem hlt]
      simp only
      unfold So0 at h
      cases eg : g xs[i] (wipeD s vs) with
      | none => rw [eg] at h; exact h.elim
      | some s2 =>
        rw [eg] at h
        dsimp only at h ⊢
        unfold Ev0 at h
        cases et : t s2 with
        | no => rw [et] at h; exact h.elim
        | ok b s3 =>
          rw [et] at h
          cases b with
          | false =>
            have h : f xs[i] = none ∧ wipeD s3 vs = wipeD s vs := by simpa [Br0] using h
            simp only [h.1, h.2]
            exact ih (i + 1) (by omega)
          | true =>
            dsimp only at h
            simp only
            cases ee : e s3 with
            | no => rw [ee] at h; simp [Br0] at h
            | ok y s4 =>
              rw [ee] at h
              have h : f xs[i] = some y ∧ wipeD s4 vs = wipeD s vs := by simpa [Br0] using h
              simp only [h.1, h.2, ih (i + 1) (by omega)]
  have : Ev0 (mLcS j g t e vs) s Q := by
    unfold Ev0 mLcS
    rw [hj1]
    simp only
    rw [key xs.length 0 (by omega), List.drop_zero]
    simp only
    rw [if_pos hf]
    exact he
  with_unfolding_all exact this
section
variable {X : Cx} {K : Fg} {O : List Kd} {k : Kd} {mt : M Bool} {me : M D}
/-- pe_lc, its parts' readings told by what they do -/
theorem pe_lcD {elt tg iter : Expr} {ifs : List Expr} {scope : Scope} {own : List (Str × Nat)} {pos : Pos} {wi : TI} {g : TG} {tt : TT} {te : TE} (_ : ∀ c : Ctx, DT K c O tt mt) (_ : ∀ c : Ctx, DO K c O k te me) (hc : X.calm = true) (hN : X.N.Nodup) (hi : PI X tg iter wi) (ok : BlkOk X.N X.env.scope scope own)
    (hg : ∀ (s : Shared) (H : Hp) (C : Addr) (cl : List (Str × Addr)) (fp : List Addr), PG (X.blk s H scope (compEnvC scope cl C X.env) fp) tg g) (ht : ∀ (s : Shared) (H : Hp) (C : Addr) (cl : List (Str × Addr)) (fp : List Addr), PTs (X.blk s H scope (compEnvC scope cl C X.env) fp) ifs tt)
    (he : ∀ (s : Shared) (H : Hp) (C : Addr) (cl : List (Str × Addr)) (fp : List Addr), PE (X.blk s H scope (compEnvC scope cl C X.env) fp) elt te) (hs : ∀ x, foldedSetIterable iter X.env x = pure x := by intro _; rfl) :
    PE X (.ListComp elt [⟨tg, iter, ifs, 0⟩] scope pos) (tLc wi g tt te (own.map (·.2))) := pe_lc hc hN hi ok hg ht he hs
theorem ps_setLcD {i : Nat} {y : Str} {py : Pos} {elt tg iter : Expr} {ifs : List Expr} {scope : Scope} {own : List (Str × Nat)} {pos spos : Pos} {wi : TI} {g : TG} {tt : TT} {te : TE} (_ : ∀ c : Ctx, DT K c O tt mt) (_ : ∀ c : Ctx, DO K c O k te me) (hc : X.calm = true) (hN : X.N.Nodup) (hy : X.N[i]? = some y) (hyl : X.env.scope.names.lookup y = some .local)
    (hsw : swapsWith (.ListComp elt [⟨tg, iter, ifs, 0⟩] scope pos) (some (.Name y py)) spos.line X.env = pure true) (hi : PI X tg iter wi) (ok : BlkOk X.N X.env.scope scope own)
    (hg : ∀ (s : Shared) (H : Hp) (C : Addr) (cl : List (Str × Addr)) (fp : List Addr), PG (X.blk s H scope (compEnvC scope cl C X.env) fp) tg g) (ht : ∀ (s : Shared) (H : Hp) (C : Addr) (cl : List (Str × Addr)) (fp : List Addr), PTs (X.blk s H scope (compEnvC scope cl C X.env) fp) ifs tt)
    (he : ∀ (s : Shared) (H : Hp) (C : Addr) (cl : List (Str × Addr)) (fp : List Addr), PE (X.blk s H scope (compEnvC scope cl C X.env) fp) elt te) (hs : ∀ x, foldedSetIterable iter X.env x = pure x := by intro _; rfl) :
    PS X (.Assign [.Name y py] (.ListComp elt [⟨tg, iter, ifs, 0⟩] scope pos) spos) (tAsg (tLc wi g tt te (own.map (·.2))) (gName i)) := ps_setLc hc hN hy hyl hsw hi ok hg ht he hs
end
end Z
set_option Elab.async false
set_option linter.all false
set_option maxRecDepth 100000
namespace Z
open PySem L2
/-! ### extend, reversed copies, bit_length, enumerate -/
def sExt (i : Nat) (m : M D) : MS := fun s => match s[i]? with
  | some (some (.list _)) => match m s with
    | .ok (.list ys) s' => match s'[i]? with
      | some (some (.list xs)) => if fits (xs.length + ys.length) then .nx (s'.set i (some (.list (xs ++ ys)))) else .no
      | _ => .no
    | _ => .no
  | _ => .no
section
variable {K : Fg} {c : Ctx} {O Ob : List Kd} {te : TE} {m : M D} {b1 : M BR}
theorem c_ext (i : Nat) (h : DO K c O (.ls .sh) te m) (hk : lsish (O.getD i .sh) = true := by rfl) : DC K c Ob O (tDrop (tBM K "list" rExtend (tVar i) (tCons te tNil))) (sExt i m) O := ⟨fun {F H σ fps ds} r E p => by
  unfold sExt at p
  split at p
  · rename_i ys hy
    obtain ⟨v, hv, ow⟩ := r.slots i _ hy
    obtain ⟨q0, zs, es, rfl, _, hq0, _, _⟩ := ow_ls hk ow
    refine ⟨_, hv, .inl ⟨rfl, zs, SqL.of hq0⟩, ?_⟩
    split at p
    · rename_i ys' s' e
      split at p
      · rename_i xs hx
        split at p
        · rename_i hz
          refine h.run r e _ fun F1 H1 fps1 w fpw s1 r1 oww hfw ndw => ?_
          obtain ⟨v1, hv1, ow1⟩ := r1.slots i _ hx
          obtain ⟨q1, zs1, es1, rfl, e2, hq1, hfp, al⟩ := ow_ls hk ow1
          cases e2
          have e3 : q1 = q0 := by rw [hv] at hv1; cases hv1; rfl
          subst e3
          obtain ⟨b, ws, es2, rfl, e4, hb, _, al2⟩ := ow_ls (k := .ls .sh) rfl oww
          cases e4
          refine ⟨_, b, zs1, ws, rfl, rfl, hq1, hb, by rw [dpa_len al, dpa_len al2]; exact fits_of hz, ?_⟩
          exact p F1 _ σ fps1 s1 (r1.mut hk ⟨_, hx⟩ hv hfp (dpa_append al al2))
        · exact p.elim
      · exact p.elim
    · exact p.elim
  · exact p.elim⟩
def revD : D → Option D
  | .list xs => some (.list xs.reverse)
  | _ => none
theorem dpa_rev {F : Hp} {vs : List V} {ds : List D} (h : DpAll K F vs ds) : DpAll K F vs.reverse ds.reverse := by
  induction h using DpAll.rec (motive_1 := fun _ _ _ => True) with
  | nil => exact .nil
  | cons h _ _ ih =>
    rw [List.reverse_cons, List.reverse_cons]
    exact dpa_append ih (.cons h .nil)
  | _ => trivial
theorem d_rev (h : DB K c O te b1) : DE K c O (tRevL K te) (mUn revD b1) := ⟨fun {F H σ fps ds ds' d} rl e Q q => by
  obtain ⟨x, s1, e1, g2⟩ := bnd_ok e
  refine h.run rl e1 _ fun F1 H1 fps1 v sF r1 bv => ?_
  split at g2
  · rename_i dx hx
    obtain ⟨g3, z⟩ := opt_ok g2
    subst z
    unfold revD at g3
    split at g3
    · cases g3
      obtain ⟨a, xs, rfl, sq, al⟩ := (Bm.vw r1 bv hx).lst r1.sub
      refine ⟨a, xs, rfl, sq, fun p hp => ?_⟩
      have s2 : Same F1 (upd F1 p (.lst xs.reverse)) := same_upd (r1.fresh hp).1
      exact q _ _ fps1 (.ref p) (sF.trans s2) (r1.alloc hp _) (.lst (SqL.of upd_same) (dpa_mono s2 (dpa_rev al)))
    · cases g3
  · cases g2⟩
def bitsD : D → Option D
  | .int i => some (.int (Builtin.Int.intBits i : Nat))
  | _ => none
theorem d_bits (h : DE K c O te m) : DE K c O (tBits te) (mUn bitsD (mV m)) := ⟨fun {F H σ fps ds ds' d} rl e Q q => by
  obtain ⟨x, s1, e1, g2⟩ := bnd_ok e
  obtain ⟨y, s2, e2, g3⟩ := bnd_ok e1
  cases g3
  refine h.run rl e2 _ fun F1 H1 fps1 v sF r1 dp => ?_
  simp only [res] at g2
  obtain ⟨g4, z⟩ := opt_ok g2
  subst z
  unfold bitsD at g4
  split at g4
  · cases g4
    cases dp
    exact ⟨_, rfl, q F1 H1 fps1 _ sF r1 (.int _)⟩
  · cases g4⟩
def enumD (xs : List D) : List D := xs.mapIdx fun i x => .tuple [.int i, x]
def mEnum (ml : M (List D)) : M (List D) := bnd ml fun ds => opt (match ds with | [.list xs] => some (enumD xs) | _ => none)
theorem enumD_get {xs : List D} {i : Nat} : (enumD xs)[i]? = (xs[i]?).map fun x => .tuple [.int i, x] := by
  unfold enumD
  rw [List.getElem?_mapIdx]
theorem enumD_len {xs : List D} : (enumD xs).length = xs.length := by unfold enumD; rw [List.length_mapIdx]
theorem walk_e {F : Hp} {a : Addr} {xs : List V} {ds : List D} (hq : SqL K F a xs) (al : DpAll K F xs ds) : Walks K F (Ite K a) (enumD ds) := fun F1 H1 i s1 s2 => by
  have hq1 := sqL_mono s2 (sqL_mono s1 hq)
  refine ⟨fun d hd => ?_, fun hi => ⟨xs, hq1, by rw [dpa_len al, hi, enumD_len]; exact Nat.le_refl _⟩⟩
  rw [enumD_get] at hd
  cases hx : ds[i]? with
  | none => rw [hx] at hd; cases hd
  | some x =>
    rw [hx] at hd
    cases hd
    obtain ⟨v, hv, dp⟩ := dpa_get al hx
    refine ⟨⟨xs, v, hq1, hv⟩, fun y H2 hy => ?_⟩
    obtain ⟨T, x', rfl, hT, rfl, hx'⟩ := hy
    have e := hx' xs hq1
    rw [hv] at e
    cases e
    have s3 : Same F1 (upd F1 T (.tup [.int (i : Nat), v])) := same_upd (s2.free hT)
    exact ⟨_, .new _ hT, .tup (SqT.of upd_same) (.cons (.int _) (.cons (dp_mono s3 (dp_mono s1 dp)) .nil))⟩
theorem i_enum {tl : TA} {ml : M (List D)} (h : DA K c O tl ml) : DI K c O (iEnum K tl) (mEnum ml) := ⟨fun {F H σ fps ds ds' xs} r e R q => by
  obtain ⟨es, s1, e1, g1⟩ := bnd_ok e
  obtain ⟨g2, z⟩ := opt_ok g1
  subst z
  split at g2
  · cases g2
    refine h.run r e1 _ fun F1 H1 fps1 vs sF r1 al => ?_
    cases al with
    | cons dp al =>
      cases al
      cases dp with
      | lst hq al => exact ⟨_, _, rfl, sqL_mono r1.sub hq, q F1 H1 fps1 _ sF r1 (walk_e hq al)⟩
  · cases g2⟩
end
section
variable {s : DS} {Nx : DS → Prop} {Rt : D → DS → Prop} {Bk Ct : DS → Prop} {Ex : Xc → DS → Prop}
theorem run_ext_0 {i : Nat} {m : M D} : Run0 (sExt i m) s Nx Rt Bk Ct Ex = So0 (look s i) fun d0 => So0 (lof d0) fun _ => Ev0 m s fun d s' => So0 (lof d) fun ys => So0 (look s' i) fun d1 => So0 (lof d1) fun xs => fits (xs.length + ys.length) = true ∧ Nx (s'.set i (some (.list (xs ++ ys)))) := by
  unfold look
  dsimp only [Run0, sExt]
  cases h : s[i]? with
  | none => rfl
  | some o =>
    cases o with
    | none => rfl
    | some d0 =>
      cases d0 <;> try rfl
      unfold Ev0
      cases m s with
      | no => rfl
      | ok d s' =>
        cases d <;> try rfl
        dsimp only [So0, lof]
        cases h' : s'[i]? with
        | none => rfl
        | some o =>
          cases o with
          | none => rfl
          | some d1 =>
            cases d1 <;> try rfl
            rename_i ys l xs
            dsimp only
            cases fits (xs.length + l.length) <;> simp
theorem run_ext {i : Nat} {m : M D} : Run (sExt i m) s Nx Rt Bk Ct Ex = So (look s i) fun d0 => So (lof d0) fun _ => Ev m s fun d s' => So (lof d) fun ys => So (look s' i) fun d1 => So (lof d1) fun xs => fits (xs.length + ys.length) = true ∧ Nx (s'.set i (some (.list (xs ++ ys)))) := by with_unfolding_all exact run_ext_0
theorem so_rev {l : List D} {Q : D → Prop} : So (revD (.list l)) Q = Q (.list l.reverse) := by with_unfolding_all exact nr rfl
theorem so_bits {i : Int} {Q : D → Prop} : So (bitsD (.int i)) Q = Q (.int (Builtin.Int.intBits i : Nat)) := by with_unfolding_all exact nr rfl
def en1 : List D → Option (List D)
  | [.list xs] => some (enumD xs)
  | _ => none
theorem ev_enum {m : M (List D)} {Q : List D → DS → Prop} : Ev (mEnum m) s Q = Ev m s fun d s' => So (en1 d) fun xs => Q xs s' := by
  unfold mEnum
  rw [ev_bnd]
  have e : ∀ (d : List D) (s' : DS), Ev (opt (match d with | [.list xs] => some (enumD xs) | _ => none)) s' Q = So (en1 d) fun xs => Q xs s' := fun d s' => by
    rw [ev_opt]
    unfold en1
    rfl
  have e2 : (fun d s' => Ev (opt (match d with | [.list xs] => some (enumD xs) | _ => none)) s' Q) = fun d s' => So (en1 d) fun xs => Q xs s' := funext fun d => funext fun s' => e d s'
  rw [e2]
theorem so_en {l : List D} {Q : List D → Prop} : So (en1 [.list l]) Q = Q (enumD l) := by with_unfolding_all exact nr rfl
end
end Z
namespace Z
open PySem L2
/-- xs + ys, a list of one's own -/
def catD : D → D → Option D
  | .list xs, .list ys => if fits (xs.length + ys.length) then some (.list (xs ++ ys)) else none
  | _, _ => none
theorem o_cat {K : Fg} {c : Ctx} {O : List Kd} {ta tb : TE} {b1 b2 : M BR} (ha : DB K c O ta b1) (hb : DB K c O tb b2) : DO K c O (.ls .sh) (tOp (rAddU K) ta tb) (mOp catD b1 b2) := ⟨fun {F H σ fps ds ds' d} rl e Q q => by
  obtain ⟨x, s1, e1, g1⟩ := bnd_ok e
  obtain ⟨y, s2, e2, g2⟩ := bnd_ok g1
  refine ha.run rl e1 _ fun F1 H1 fps1 v sF r1 bv => ?_
  refine hb.run r1 e2 _ fun F2 H2 fps2 u sF2 r2 bu => ?_
  split at g2
  · rename_i dx dy hx hy
    obtain ⟨g3, z⟩ := opt_ok g2
    subst z
    unfold catD at g3
    split at g3
    · split at g3
      · rename_i hf
        cases g3
        obtain ⟨p, xs, rfl, sq, al⟩ := (Bm.vw r2 (bv.mono sF2) hx).lst r2.sub
        obtain ⟨p2, xs2, rfl, sq2, al2⟩ := (Bm.vw r2 bu hy).lst r2.sub
        refine .inr (.inr (.inl ⟨p, p2, xs, xs2, rfl, rfl, sq, sq2, by rw [dpa_len al, dpa_len al2]; exact fits_of hf, fun l hl => ?_⟩))
        obtain ⟨hF, h0, hq⟩ := r2.fresh hl
        refine q F2 _ fps2 (.ref l) [l] (sF.trans sF2) (r2.allocO hl _) (ls_ow upd_same (dpa_append al al2)) (fun q' hq' => ?_) (by simp)
        have : q' = l := by simpa using hq'
        subst this
        exact ⟨hF, by rw [upd_same]; simp, h0, hq⟩
      · cases g3
    · cases g3
  · cases g2⟩
theorem so_catD {l k : List D} {Q : D → Prop} : So (catD (.list l) (.list k)) Q = (fits (l.length + k.length) = true ∧ Q (.list (l ++ k))) := by
  show So (if fits (l.length + k.length) then some (PyData.list (l ++ k)) else none) Q = _
  rw [so_if, so_some]
end Z
set_option Elab.async false
set_option linter.all false
set_option maxRecDepth 100000
namespace Z
open PySem L2
/-! ### == of things of bounded depth -/
def shp : Nat → D → Bool
  | _, .none => true
  | _, .bool _ => true
  | _, .int _ => true
  | _, .str x => PyData.canLay0 (.str x)
  | n + 1, .list xs => xs.all (shp n)
  | n + 1, .tuple xs => xs.all (shp n)
  | _, _ => false
theorem shp_lay : ∀ (n : Nat) (d : D), shp n d = true → PyData.canLay0 d = true ∧ PyData.depth d ≤ n := by
  intro n
  induction n with
  | zero =>
    intro d h
    cases d with
    | none => exact ⟨rfl, by simp [PyData.depth]⟩
    | bool b => exact ⟨rfl, by simp [PyData.depth]⟩
    | int b => exact ⟨rfl, by simp [PyData.depth]⟩
    | str b => exact ⟨by simpa [shp] using h, by simp [PyData.depth]⟩
    | list l => simp [shp] at h
    | tuple l => simp [shp] at h
    | dict l => simp [shp] at h
  | succ n ih =>
    have all : ∀ l : List D, l.all (shp n) = true → PyData.canLayAll0 l = true ∧ PyData.depthAll l ≤ n := fun l => by
      induction l with
      | nil => intro _; simp [PyData.canLayAll0, PyData.depthAll]
      | cons x l ihl =>
        intro h
        rw [List.all_cons, Bool.and_eq_true] at h
        obtain ⟨a, b⟩ := ih x h.1
        obtain ⟨c, e⟩ := ihl h.2
        simp [PyData.canLayAll0, PyData.depthAll, a, c]
        omega
    intro d h
    cases d with
    | none => exact ⟨rfl, by simp [PyData.depth]⟩
    | bool b => exact ⟨rfl, by simp [PyData.depth]⟩
    | int b => exact ⟨rfl, by simp [PyData.depth]⟩
    | str b => exact ⟨by simpa [shp] using h, by simp [PyData.depth]⟩
    | list l =>
      obtain ⟨a, b⟩ := all l (by simpa [shp] using h)
      exact ⟨by simpa [PyData.canLay0] using a, by simp [PyData.depth]; omega⟩
    | tuple l =>
      obtain ⟨a, b⟩ := all l (by simpa [shp] using h)
      exact ⟨by simpa [PyData.canLay0] using a, by simp [PyData.depth]; omega⟩
    | dict l => simp [shp] at h
theorem shaped_of {n : Nat} {d : D} (h : shp n d = true) (hn : n ≤ 63 := by decide) : SeqAt.shaped d = true := by
  obtain ⟨a, b⟩ := shp_lay n d h
  unfold SeqAt.shaped
  rw [a]
  simp
  omega
theorem eqv_same : ∀ (n : Nat) (d : D), shp n d = true → PyData.eqv d d = true := by
  intro n
  induction n with
  | zero =>
    intro d h
    cases d with
    | none => simp [PyData.eqv]
    | bool b => simp [PyData.eqv]
    | int b => simp [PyData.eqv]
    | str b => simp [PyData.eqv]
    | list l => simp [shp] at h
    | tuple l => simp [shp] at h
    | dict l => simp [shp] at h
  | succ n ih =>
    have all : ∀ l : List D, l.all (shp n) = true → PyData.eqvAll l l = true := fun l => by
      induction l with
      | nil => intro _; simp [PyData.eqvAll]
      | cons x l ihl =>
        intro h
        rw [List.all_cons, Bool.and_eq_true] at h
        simp [PyData.eqvAll, ih x h.1, ihl h.2]
    intro d h
    cases d with
    | none => simp [PyData.eqv]
    | bool b => simp [PyData.eqv]
    | int b => simp [PyData.eqv]
    | str b => simp [PyData.eqv]
    | list l => simpa [PyData.eqv] using all l (by simpa [shp] using h)
    | tuple l => simpa [PyData.eqv] using all l (by simpa [shp] using h)
    | dict l => simp [shp] at h
section
variable {x y : D} {Q : D → Prop}
theorem eqB_of (h1 : SeqAt.shaped x = true) (h2 : SeqAt.shaped y = true) : eqB x y = some (PyData.eqv x y) := by
  unfold eqB
  split
  · rw [PyData.eqv]
    exact congrArg some (Bool.beq_eq_decide_eq _ _).symm
  · rw [h1, h2]
    rfl
theorem so_eqd (h1 : SeqAt.shaped x = true) (h2 : SeqAt.shaped y = true) (q : Q (.bool (PyData.eqv x y))) : So (eqD x y) Q := by
  unfold eqD
  rw [eqB_of h1 h2, Option.map_some, so_some]
  exact q
theorem so_ned (h1 : SeqAt.shaped x = true) (h2 : SeqAt.shaped y = true) (q : Q (.bool (!PyData.eqv x y))) : So (neD x y) Q := by
  unfold neD
  rw [eqB_of h1 h2, Option.map_some, so_some]
  exact q
/-- equal things -/
theorem so_eq_s {n : Nat} (h : shp n x = true) (q : Q (.bool true)) (hn : n ≤ 63 := by decide) : So (eqD x x) Q := so_eqd (shaped_of h hn) (shaped_of h hn) (by rw [eqv_same n x h]; exact q)
theorem so_ne_s {n : Nat} (h : shp n x = true) (q : Q (.bool false)) (hn : n ≤ 63 := by decide) : So (neD x x) Q := so_ned (shaped_of h hn) (shaped_of h hn) (by rw [eqv_same n x h]; exact q)
theorem so_eqBB {a b : Bool} : So (eqD (.bool a) (.bool b)) Q = Q (.bool (a == b)) := by
  unfold eqD
  rw [eqB_of (shaped_of (n := 0) rfl) (shaped_of (n := 0) rfl), Option.map_some, so_some]
  simp [PyData.eqv]
theorem so_neBB {a b : Bool} : So (neD (.bool a) (.bool b)) Q = Q (.bool (!(a == b))) := by
  unfold neD
  rw [eqB_of (shaped_of (n := 0) rfl) (shaped_of (n := 0) rfl), Option.map_some, so_some]
  simp [PyData.eqv]
/-- a list against [] -/
theorem so_neNil {n : Nat} {l : List D} (h : shp n (.list l) = true) (q : Q (.bool (!l.isEmpty))) (hn : n ≤ 63 := by decide) : So (neD (.list l) (.list [])) Q := so_ned (shaped_of h hn) (shaped_of (n := 1) rfl) (by
  cases l with
  | nil => simpa [PyData.eqv, PyData.eqvAll] using q
  | cons a l => simpa [PyData.eqv, PyData.eqvAll] using q)
theorem so_eqNil {n : Nat} {l : List D} (h : shp n (.list l) = true) (q : Q (.bool l.isEmpty)) (hn : n ≤ 63 := by decide) : So (eqD (.list l) (.list [])) Q := so_eqd (shaped_of h hn) (shaped_of (n := 1) rfl) (by
  cases l with
  | nil => simpa [PyData.eqv, PyData.eqvAll] using q
  | cons a l => simpa [PyData.eqv, PyData.eqvAll] using q)
theorem shp_ints (ns : List Int) : shp 1 (.list (ns.map .int)) = true := by
  simp [shp]
theorem shp_rg (a b : Int) : shp 1 (.list (rgD a b)) = true := by
  simp [shp, rgD]
end
theorem at_last {α : Type} {l : List α} (v : α) : atI (l ++ [v]) (-1) = some v := atI_last l v
/-- two ways that join -/
theorem br_cut (P : DS → Prop) {x : Bool} {A B : MS} {s : DS} {Nx : DS → Prop} {Rt : D → DS → Prop} {Bk Ct : DS → Prop} {Ex : Xc → DS → Prop} (hA : x = true → Run A s P Rt Bk Ct Ex) (hB : x = false → Run B s P Rt Bk Ct Ex) (hN : ∀ s', P s' → Nx s') : Br x (Run A s Nx Rt Bk Ct Ex) (Run B s Nx Rt Bk Ct Ex) :=
  br_i (fun h => run_mono (hA h) hN (fun _ _ z => z) (fun _ z => z) (fun _ z => z) fun _ _ z => z) fun h => run_mono (hB h) hN (fun _ _ z => z) (fun _ z => z) (fun _ z => z) fun _ _ z => z
/-- a if t else b, either way one value -/
theorem br_ev {x : Bool} {a b : M D} {s : DS} {Q : D → DS → Prop} (v : D) (ha : x = true → Ev a s fun d s' => d = v ∧ s' = s) (hb : x = false → Ev b s fun d s' => d = v ∧ s' = s) (q : Q v s) : Br x (Ev a s Q) (Ev b s Q) :=
  br_i (fun h => ev_mono (ha h) fun d s' e => by rw [e.1, e.2]; exact q) fun h => ev_mono (hb h) fun d s' e => by rw [e.1, e.2]; exact q
/-- a or b as a value -/
theorem br_orV {x : Bool} {A : Prop} {b : M D} {s : DS} {Q : D → DS → Prop} (v : Bool) (ha : x = true → v = true) (hb : x = false → Ev b s fun d s' => d = .bool v ∧ s' = s) (q : Q (.bool v) s) (hA : Q (.bool true) s = A := by rfl) : Br x A (Ev b s Q) :=
  br_i (fun h => by rw [← hA, ← ha h]; exact q) fun h => ev_mono (hb h) fun d s' e => by rw [e.1, e.2]; exact q
theorem br_andV {x : Bool} {A : Prop} {b : M D} {s : DS} {Q : D → DS → Prop} (v : Bool) (ha : x = false → v = false) (hb : x = true → Ev b s fun d s' => d = .bool v ∧ s' = s) (q : Q (.bool v) s) (hA : Q (.bool false) s = A := by rfl) : Br x (Ev b s Q) A :=
  br_i (fun h => ev_mono (hb h) fun d s' e => by rw [e.1, e.2]; exact q) fun h => by rw [← hA, ← ha h]; exact q
end Z
set_option Elab.async false
set_option linter.all false
set_option maxRecDepth 100000
namespace Z
open PySem L2
/-! ### is, of truths -/
def isBl : D → D → Option D
  | .bool a, .bool b => some (.bool (decide (a = b)))
  | _, _ => none
def notBl : D → D → Option D
  | .bool a, .bool b => some (.bool (!decide (a = b)))
  | _, _ => none
theorem g_isBl {K : Fg} : OpG K rIsB isBl := fun F H x y dx dy d sF vx vy e Q q => by
  unfold isBl at e
  split at e
  · cases e
    rw [vx.bl, vy.bl]
    exact ⟨_, _, rfl, rfl, q F H _ .refl (.bl _)⟩
  · cases e
theorem g_notBl {K : Fg} : OpG K rNotB notBl := fun F H x y dx dy d sF vx vy e Q q => by
  unfold notBl at e
  split at e
  · cases e
    rw [vx.bl, vy.bl]
    exact ⟨_, _, rfl, rfl, q F H _ .refl (.bl _)⟩
  · cases e
theorem so_isBl {a b : Bool} {Q : D → Prop} : So (isBl (.bool a) (.bool b)) Q = Q (.bool (decide (a = b))) := by with_unfolding_all exact nr rfl
theorem so_notBl {a b : Bool} {Q : D → Prop} : So (notBl (.bool a) (.bool b)) Q = Q (.bool (!decide (a = b))) := by with_unfolding_all exact nr rfl
end Z
set_option Elab.async false
set_option linter.all false
set_option maxRecDepth 100000
namespace Z
open PySem L2
/-! ### a slot set aside, and put back -/
section
variable {K : Fg} {c : Ctx} {O : List Kd} {F H : Hp} {σ : St} {fps : Nat → List Addr} {ds : DS}
theorem Rel.aside (r : Rel K c O F H σ fps ds) (i : Nat) : Rel K c O F H σ (fun j => if j = i then [] else fps j) (ds.set i none) := by
  have sub : ∀ j q, q ∈ (if j = i then [] else fps j) → q ∈ fps j := fun j q h => by
    by_cases z : j = i
    · rw [if_pos z] at h; exact absurd h (by simp)
    · rw [if_neg z] at h; exact h
  refine ⟨r.sub, r.base, r.keep, r.live, r.new, fun j d e => ?_, fun j q hq => r.off j q (sub j q hq), fun j => ?_, fun j k hjk q hq hq' => r.dj j k hjk q (sub j q hq) (sub k q hq'), r.par, by rw [List.length_set]; exact r.len⟩
  · by_cases z : j = i
    · subst z
      by_cases hl : j < ds.length
      · rw [List.getElem?_set_self hl] at e; cases e
      · rw [List.getElem?_eq_none (by rw [List.length_set]; omega)] at e; cases e
    · rw [List.getElem?_set_ne (Ne.symm z)] at e
      simp only [if_neg z]
      exact r.slots j d e
  · by_cases z : j = i
    · simp only [if_pos z]; simp
    · simp only [if_neg z]; exact r.nd j
theorem Rel.again (r : Rel K c O F H σ fps ds) {i : Nat} {v : V} {d : D} {fp : List Addr} (hv : σ[i]? = some (some v)) (ow : Ow K F H (O.getD i .sh) v d fp)
    (hf : ∀ q ∈ fp, F q = none ∧ H q ≠ none ∧ (c.H0 q = none ∨ (c.ow i q ∧ isPm O[i]? = true)) ∧ ∀ j, j ≠ i → q ∉ fps j) (nd : fp.Nodup) : Rel K c O F H σ (fun j => if j = i then fp else fps j) (ds.set i (some d)) := by
  refine ⟨r.sub, r.base, r.keep, r.live, r.new, fun j e hj => ?_, fun j q hq => ?_, fun j => ?_, fun j k hjk q hq hq' => ?_, r.par, by rw [List.length_set]; exact r.len⟩
  · by_cases z : j = i
    · subst z
      by_cases hl : j < ds.length
      · rw [List.getElem?_set_self hl] at hj
        cases hj
        simp only [if_pos]
        exact ⟨v, hv, ow⟩
      · rw [List.getElem?_eq_none (by rw [List.length_set]; omega)] at hj; cases hj
    · rw [List.getElem?_set_ne (Ne.symm z)] at hj
      simp only [if_neg z]
      exact r.slots j e hj
  · by_cases z : j = i
    · simp only [if_pos z] at hq
      obtain ⟨a, b, cc, _⟩ := hf q hq
      exact ⟨a, b, by rw [z]; exact cc⟩
    · simp only [if_neg z] at hq
      exact r.off j q hq
  · by_cases z : j = i
    · simp only [if_pos z]; exact nd
    · simp only [if_neg z]; exact r.nd j
  · by_cases z : j = i
    · by_cases z' : k = i
      · exact hjk (z.trans z'.symm)
      · simp only [if_pos z] at hq
        simp only [if_neg z'] at hq'
        exact (hf q hq).2.2.2 k z' hq'
    · simp only [if_neg z] at hq
      by_cases z' : k = i
      · simp only [if_pos z'] at hq'
        exact (hf q hq').2.2.2 j z hq
      · simp only [if_neg z'] at hq'
        exact r.dj j k hjk q hq hq'
theorem Rel.updP (r : Rel K c O F H σ fps ds) {p : Addr} (hF : F p = none) (h0 : c.H0 p = none ∨ c.own p) (hq : ∀ i, p ∉ fps i) (o : HO) : Rel K c O F (upd H p o) σ fps ds := by
  refine ⟨fun b u e => ?_, r.base, fun b u e n => ?_, fun b e => ?_, r.new, fun i d e => ?_, fun i q hqi => ?_, r.nd, r.dj, r.par, r.len⟩
  · rw [upd_ne (ne_of_none e hF)]; exact r.sub b u e
  · have hb : b ≠ p := fun z => by
      subst z
      rcases h0 with h0 | h0
      · rw [h0] at e; cases e
      · exact n h0
    rw [upd_ne hb]; exact r.keep b u e n
  · by_cases hb : b = p
    · subst hb; rw [upd_same] at e; cases e
    · rw [upd_ne hb] at e; exact r.live b e
  · obtain ⟨v, hv, ho⟩ := r.slots i d e
    exact ⟨v, hv, ow_mono (Same.refl _) ho fun q hq' => upd_ne fun z => by subst z; exact hq i hq'⟩
  · obtain ⟨a, b, cc⟩ := r.off i q hqi
    have hb : q ≠ p := fun z => by subst z; exact hq i hqi
    rw [upd_ne hb]; exact ⟨a, b, cc⟩
end
end Z
set_option Elab.async false
set_option linter.all false
set_option maxRecDepth 100000
namespace Z
open PySem L2
/-! ### places within a thing of one's own -/
inductive Sel where
  | ix (n : Nat)
  | fd (f : Str)
deriving DecidableEq
/-- a field of an object -/
def fldD (f : Str) : List (D × D) → Option D
  | [] => none
  | (.str g, d) :: r => if f = g then some d else fldD f r
  | _ :: r => fldD f r
def putD (f : Str) (x : D) : List (D × D) → List (D × D)
  | [] => []
  | (.str g, d) :: r => if f = g then (.str g, x) :: r else (.str g, d) :: putD f x r
  | e :: r => e :: putD f x r
def fkOf : Kd → Str → Kd
  | .of f k r, g => if g = f then k else fkOf r g
  | _, _ => .sh
def isSt : Kd → Bool
  | .oe _ => true
  | .of _ _ _ => true
  | _ => false
/-- an object of a class -/
def isOb : Kd → Bool
  | .oe cs => !cs.isEmpty
  | .of _ _ r => isOb r
  | _ => false
/-- a dict of fields -/
def isRc : Kd → Bool
  | .oe cs => cs.isEmpty
  | .of _ _ r => isRc r
  | _ => false
theorem isSt_ob {k : Kd} (h : isOb k = true) : isSt k = true := by cases k <;> first | rfl | cases h
theorem isSt_rc {k : Kd} (h : isRc k = true) : isSt k = true := by cases k <;> first | rfl | cases h
/-- one step -/
def getS : Sel → D → Option D
  | .ix n, .list ds => ds[n]?
  | .ix n, .tuple ds => ds[n]?
  | .fd f, .dict ds => fldD f ds
  | _, _ => none
def setS : Sel → D → D → Option D
  | .ix n, .list ds, x => some (.list (ds.set n x))
  | .ix n, .tuple ds, x => some (.tuple (ds.set n x))
  | .fd f, .dict ds, x => some (.dict (putD f x ds))
  | _, _, _ => none
def getP : List Sel → D → Option D
  | [], d => some d
  | s :: π, d => match getS s d with
    | some d' => getP π d'
    | none => none
def setP : List Sel → D → D → Option D
  | [], _, x => some x
  | s :: π, d, x => match getS s d with
    | some d' => match setP π d' x with
      | some y => setS s d y
      | none => none
    | none => none
def stepK : Sel → Kd → Option Kd
  | .ix _, .ls k => some k
  | .ix 0, .tc k _ => some k
  | .ix (n + 1), .tc _ r => stepK (.ix n) r
  | s, .op k => stepK s k
  | .fd f, .oe cs => some (fkOf (.oe cs) f)
  | .fd f, .of g k r => some (fkOf (.of g k r) f)
  | _, _ => none
def kdP : List Sel → Kd → Option Kd
  | [], k => some k
  | s :: π, k => match stepK s k with
    | some k' => kdP π k'
    | none => none
def unpm : Kd → Kd
  | .pm k => k
  | k => k
theorem ow_unpm {K : Fg} {F H : Hp} {k : Kd} {v : V} {d : D} {fp : List Addr} : Ow K F H (unpm k) v d fp = Ow K F H k v d fp := by
  cases k <;> rfl
def VS (H : Hp) : V → Sel → V → Prop
  | v, .ix n, w => ∃ p xs, v = .ref p ∧ (H p = some (.lst xs) ∨ H p = some (.tup xs)) ∧ xs[n]? = some w
  | v, .fd f, w => ∃ p fs, v = .ref p ∧ ((∃ C dx, H p = some (.ins C dx fs)) ∨ H p = some (recK fs)) ∧ fs.lookup f = some w
def VP (H : Hp) : V → List Sel → V → Prop
  | v, [], w => v = w
  | v, s :: π, w => ∃ u, VS H v s u ∧ VP H u π w
theorem All3.split {α β γ : Type} {P : α → β → γ → Prop} : ∀ {xs ys zs} {n : Nat} {y : β}, All3 P xs ys zs → ys[n]? = some y →
    ∃ xa x xb ya yb za z zb, xs = xa ++ x :: xb ∧ ys = ya ++ y :: yb ∧ zs = za ++ z :: zb ∧ xa.length = n ∧ ya.length = n ∧ All3 P xa ya za ∧ P x y z ∧ All3 P xb yb zb
  | _, _, _, _, _, .nil, e => by simp at e
  | _, _, _, 0, y, .cons (a := a) (as := as) (b := b) (bs := bs) (c := c) (cs := cs) h t, e => by
    simp at e
    subst e
    exact ⟨[], a, as, [], bs, [], c, cs, rfl, rfl, rfl, rfl, rfl, .nil, h, t⟩
  | _, _, _, n + 1, y, .cons (a := a) (b := b) (c := c) h t, e => by
    obtain ⟨xa, x, xb, ya, yb, za, z, zb, rfl, rfl, rfl, l1, l2, h1, h2, h3⟩ := All3.split (n := n) (y := y) t (by simpa using e)
    exact ⟨a :: xa, x, xb, b :: ya, yb, c :: za, z, zb, rfl, rfl, rfl, by simp [l1], by simp [l2], .cons h h1, h2, h3⟩
theorem All3.append {α β γ : Type} {P : α → β → γ → Prop} : ∀ {xs ys zs xs' ys' zs'}, All3 P xs ys zs → All3 P xs' ys' zs' → All3 P (xs ++ xs') (ys ++ ys') (zs ++ zs')
  | _, _, _, _, _, _, .nil, h => h
  | _, _, _, _, _, _, .cons p t, h => .cons p (t.append h)
theorem FlO.split {R : Str → OwR} : ∀ {vs : List (Str × V)} {ds : List (D × D)} {fs : List (List Addr)} {f : Str} {d : D}, FlO R vs ds fs → fldD f ds = some d →
    ∃ va v vb da db fa fp fb, vs = va ++ (f, v) :: vb ∧ ds = da ++ (.str f, d) :: db ∧ fs = fa ++ fp :: fb ∧ FlO R va da fa ∧ R f v d fp ∧ FlO R vb db fb ∧ (∀ x ∈ va, x.1 ≠ f)
  | _, _, _, _, _, .nil, e => by simp [fldD] at e
  | _, _, _, f, d, .cons (f := g) (v := v) (d := d0) (fp := fp) (vs := vs) (ds := ds) (fs := fs) h t, e => by
    unfold fldD at e
    by_cases z : f = g
    · subst z
      rw [if_pos rfl] at e
      cases e
      exact ⟨[], v, vs, [], ds, [], fp, fs, rfl, rfl, rfl, .nil, h, t, fun x hx => absurd hx (by simp)⟩
    · rw [if_neg z] at e
      obtain ⟨va, v', vb, da, db, fa, fp', fb, rfl, rfl, rfl, h1, h2, h3, h4⟩ := FlO.split (f := f) (d := d) t e
      refine ⟨(g, v) :: va, v', vb, (.str g, d0) :: da, db, fp :: fa, fp', fb, rfl, rfl, rfl, .cons h h1, h2, h3, fun x hx => ?_⟩
      rcases List.mem_cons.mp hx with rfl | hx
      · exact fun y => z y.symm
      · exact h4 x hx
theorem FlO.append {R : Str → OwR} : ∀ {vs : List (Str × V)} {ds : List (D × D)} {fs : List (List Addr)} {vs' ds' fs'}, FlO R vs ds fs → FlO R vs' ds' fs' → FlO R (vs ++ vs') (ds ++ ds') (fs ++ fs')
  | _, _, _, _, _, _, .nil, h => h
  | _, _, _, _, _, _, .cons p t, h => .cons p (t.append h)
theorem lookup_split {va vb : List (Str × V)} {f : Str} {v : V} (h : ∀ x ∈ va, x.1 ≠ f) : (va ++ (f, v) :: vb).lookup f = some v := by
  induction va with
  | nil => simp
  | cons a va ih =>
    obtain ⟨g, w⟩ := a
    have hg : g ≠ f := h (g, w) (by simp)
    rw [List.cons_append, List.lookup_cons]
    have : (f == g) = false := by simpa using fun z => hg z.symm
    rw [this]
    exact ih fun x hx => h x (by simp [hx])
theorem putD_split {R : Str → OwR} {va : List (Str × V)} {da db : List (D × D)} {fa : List (List Addr)} {f : Str} {d x : D} (h : FlO R va da fa) (hn : ∀ y ∈ va, y.1 ≠ f) : putD f x (da ++ (.str f, d) :: db) = da ++ (.str f, x) :: db := by
  induction h with
  | nil => simp [putD]
  | cons h t ih =>
    rename_i g v d0 fp vs ds fs
    have hg : g ≠ f := hn (g, v) (by simp)
    rw [List.cons_append]
    show (if f = g then _ else _) = _
    rw [if_neg fun z => hg z.symm]
    show (PyData.str g, d0) :: putD f x (ds ++ (PyData.str f, d) :: db) = _
    rw [ih fun y hy => hn y (by simp [hy])]
    rfl
theorem ob_of {K : Fg} {F H : Hp} : ∀ {k : Kd}, isSt k = true → (∀ f, (Ow2 K F H k).f f = (Ow2 K F H (fkOf k f)).a) ∧ (Ow2 K F H k).a = ObO H (Ow2 K F H k).f (Ow2 K F H k).c := by
  have key : ∀ k : Kd, ∀ f, (Ow2 K F H k).f f = (Ow2 K F H (fkOf k f)).a := fun k => by
    induction k with
    | of g k r _ ih =>
      intro f
      show (if f = g then (Ow2 K F H k).a else (Ow2 K F H r).f f) = _
      unfold fkOf
      by_cases z : f = g
      · rw [if_pos z, if_pos z]
      · rw [if_neg z, if_neg z]; exact ih f
    | _ => intro f; rfl
  intro k h
  refine ⟨key k, ?_⟩
  cases k with
  | oe cs => rfl
  | of g k r => rfl
  | _ => cases h
/-- one part of a footprint is exchanged -/
theorem nd_swap {R A fn B fp2 : List Addr} (nd : (R ++ (A ++ (fn ++ B))).Nodup) (h2 : fp2.Nodup) (dj : ∀ q ∈ fp2, q ∈ R ++ (A ++ (fn ++ B)) → q ∈ fn) :
    (R ++ (A ++ (fp2 ++ B))).Nodup ∧ ∀ q ∈ R ++ (A ++ (fp2 ++ B)), q ∈ fp2 ∨ (q ∈ R ++ (A ++ (fn ++ B)) ∧ q ∉ fn) := by
  simp only [List.nodup_append, List.mem_append] at nd ⊢
  obtain ⟨nR, ⟨nA, ⟨nn, nB, dnB⟩, dA⟩, dR⟩ := nd
  simp only [List.mem_append] at dj
  refine ⟨⟨nR, ⟨nA, ⟨h2, nB, fun a ha b hb e => ?_⟩, fun a ha b hb e => ?_⟩, fun a ha b hb e => ?_⟩, fun q hq => ?_⟩
  · subst e; exact dnB a (dj a ha (.inr (.inr (.inr hb)))) a hb rfl
  · subst e
    rcases hb with hb | hb
    · exact dA a ha a (.inl (dj a hb (.inr (.inl ha)))) rfl
    · exact dA a ha a (.inr hb) rfl
  · subst e
    rcases hb with hb | hb | hb
    · exact dR a ha a (.inl hb) rfl
    · exact dR a ha a (.inr (.inl (dj a hb (.inl ha)))) rfl
    · exact dR a ha a (.inr (.inr hb)) rfl
  · rcases hq with hq | hq | hq | hq
    · exact .inr ⟨.inl hq, fun z => dR q hq q (.inr (.inl z)) rfl⟩
    · exact .inr ⟨.inr (.inl hq), fun z => dA q hq q (.inl z) rfl⟩
    · exact .inl hq
    · exact .inr ⟨.inr (.inr (.inr hq)), fun z => dnB q z q hq rfl⟩
/-- how a thing is put together again when a part of it was changed -/
def Wand (K : Fg) (F H : Hp) (k k' : Kd) (v v' : V) (fp fp' : List Addr) (put : D → Option D) : Prop := ∀ F2 H2 d2 fp2, Same F F2 → (∀ q ∈ fp, q ∉ fp' → H2 q = H q) → Ow K F2 H2 k' v' d2 fp2 → (∀ q ∈ fp2, q ∈ fp → q ∈ fp') → fp2.Nodup →
  ∃ fp3 d3, put d2 = some d3 ∧ Ow K F2 H2 k v d3 fp3 ∧ fp3.Nodup ∧ ∀ q ∈ fp3, q ∈ fp2 ∨ (q ∈ fp ∧ q ∉ fp')
theorem ob_step {K : Fg} {F H : Hp} {f : Str} {k k' : Kd} {v : V} {d d' : D} {fp : List Addr} (hob : isSt k = true) (ow : Ow K F H k v d fp) (hk : k' = fkOf k f) (hg : getS (.fd f) d = some d') (nd : fp.Nodup) :
    ∃ v' fp', VS H v (.fd f) v' ∧ (∀ H2, (∀ q ∈ fp, H2 q = H q) → VS H2 v (.fd f) v') ∧ Ow K F H k' v' d' fp' ∧ (∀ q ∈ fp', q ∈ fp) ∧ fp'.Nodup ∧ Wand K F H k k' v v' fp fp' (setS (.fd f) d) := by
  subst hk
  have oo := ob_of (K := K) (F := F) (H := H) hob
  have ow' : ObO H (Ow2 K F H k).f (Ow2 K F H k).c v d fp := by rw [← oo.2]; exact ow
  /- in one: the head's addresses, how they are kept -/
  have key : ∀ (p : Addr) (hd : List Addr) (cls : Str) (vs : List (Str × V)) (ds : List (D × D)) (gs : List (List Addr)), v = .ref p → d = .dict ((.none, .str cls) :: ds) → fp = hd ++ gs.flatten → FlO (Ow2 K F H k).f vs ds gs →
      (∀ H2 : Hp, (∀ q ∈ hd, H2 q = H q) → (∃ C dx, H2 p = some (.ins C dx vs)) ∨ H2 p = some (recK vs)) →
      (∀ (F2 H2 : Hp) ds2 gs2, Same F F2 → (∀ q ∈ hd, H2 q = H q) → FlO (Ow2 K F2 H2 k).f vs ds2 gs2 → Ow K F2 H2 k (.ref p) (.dict ((.none, .str cls) :: ds2)) (hd ++ gs2.flatten)) →
      ∃ v' fp', VS H v (.fd f) v' ∧ (∀ H2, (∀ q ∈ fp, H2 q = H q) → VS H2 v (.fd f) v') ∧ Ow K F H (fkOf k f) v' d' fp' ∧ (∀ q ∈ fp', q ∈ fp) ∧ fp'.Nodup ∧ Wand K F H k (fkOf k f) v v' fp fp' (setS (.fd f) d) := by
    intro p hd cls vs ds gs e1 e2 e3 al at_ back
    subst e1 e2 e3
    have hn : fldD f ds = some d' := hg
    obtain ⟨va, u, vb, da, db, fa, fn, fb, rfl, rfl, rfl, h1, h2, h3, h4⟩ := al.split hn
    rw [oo.1 f] at h2
    have efp : ∀ f : List Addr, hd ++ (fa ++ f :: fb).flatten = hd ++ (fa.flatten ++ (f ++ fb.flatten)) := fun f => by simp
    have inn : ∀ q, q ∈ fn → q ∈ hd ++ (fa ++ fn :: fb).flatten := fun q hq => by simp [hq]
    have nd' := nd
    rw [efp] at nd'
    have ndn : fn.Nodup := by
      simp only [List.nodup_append] at nd'
      exact nd'.2.1.2.1.1
    refine ⟨u, fn, ⟨p, _, rfl, at_ H fun _ _ => rfl, lookup_split h4⟩, fun H2 e => ⟨p, _, rfl, at_ H2 fun q hq => e q (by simp [hq]), lookup_split h4⟩, h2, inn, ndn, fun F2 H2 d2 fp2 sF e ow2 dj2 nd2 => ?_⟩
    obtain ⟨s1, s2⟩ := nd_swap nd' nd2 (fun q hq hq' => dj2 q hq (by rw [efp]; exact hq'))
    have dis : ∀ q, q ∈ hd ∨ q ∈ fa.flatten ∨ q ∈ fb.flatten → q ∉ fn := fun q hq z => by
      simp only [List.nodup_append, List.mem_append] at nd'
      obtain ⟨_, ⟨_, ⟨_, _, d3⟩, d2⟩, d1⟩ := nd'
      rcases hq with hq | hq | hq
      · exact d1 q hq q (.inr (.inl z)) rfl
      · exact d2 q hq q (.inl z) rfl
      · exact d3 q z q hq rfl
    have kp : ∀ q, q ∈ hd ∨ q ∈ fa.flatten ∨ q ∈ fb.flatten → H2 q = H q := fun q hq => e q (by
          rw [efp]
          simp only [List.mem_append]
          rcases hq with hq | hq | hq
          · exact .inl hq
          · exact .inr (.inl hq)
          · exact .inr (.inr (.inr hq))) (dis q hq)
    have oo2 := ob_of (K := K) (F := F2) (H := H2) hob
    have m2 := ow2_mono (K := K) (F := F) (F' := F2) (H := H) (H' := H2) sF k
    have al2 : FlO (Ow2 K F2 H2 k).f (va ++ (f, u) :: vb) (da ++ (.str f, d2) :: db) (fa ++ fp2 :: fb) := (h1.imp fun g w d fp hm hr => m2.2.1 g w d fp hr fun q hq => kp q (.inr (.inl (List.mem_flatten.mpr ⟨fp, hm, hq⟩)))).append
      (.cons (by rw [oo2.1 f]; exact ow2) (h3.imp fun g w d fp hm hr => m2.2.1 g w d fp hr fun q hq => kp q (.inr (.inr (List.mem_flatten.mpr ⟨fp, hm, hq⟩)))))
    refine ⟨_, _, ?_, back F2 H2 _ _ sF (fun q hq => kp q (.inl hq)) al2, by rw [efp]; exact s1, fun q hq => ?_⟩
    · show some (PyData.dict ((PyData.none, PyData.str cls) :: putD f d2 (da ++ (PyData.str f, d') :: db))) = _
      rw [putD_split h1 h4]
    · rw [efp] at hq ⊢
      exact s2 q hq
  have c2 : ∀ F2 H2, Same F F2 → (Ow2 K F H k).c = (Ow2 K F2 H2 k).c := fun F2 H2 sF => (ow2_mono (K := K) (F := F) (F' := F2) (H := H) (H' := H2) sF k).2.2.1
  rcases ow' with ⟨p, C, dx, cls, vs, ds, gs, rfl, rfl, hp, hdx, hcls, rfl, al⟩ | ⟨hcs, p, cls, vs, ds, gs, rfl, rfl, hp, rfl, al⟩
  · refine key p [p, dx] cls vs ds gs rfl rfl rfl al (fun H2 e => .inl ⟨C, dx, by rw [e p (by simp)]; exact hp⟩) fun F2 H2 ds2 gs2 sF e al2 => ?_
    show (Ow2 K F2 H2 k).a _ _ _
    rw [(ob_of (K := K) (F := F2) (H := H2) hob).2]
    exact .inl ⟨p, C, dx, cls, _, _, _, rfl, rfl, by rw [e p (by simp)]; exact hp, by rw [e dx (by simp)]; exact hdx, by rw [← c2 F2 H2 sF]; exact hcls, rfl, al2⟩
  · refine key p [p] cls vs ds gs rfl rfl rfl al (fun H2 e => .inr (by rw [e p (by simp)]; exact hp)) fun F2 H2 ds2 gs2 sF e al2 => ?_
    show (Ow2 K F2 H2 k).a _ _ _
    rw [(ob_of (K := K) (F := F2) (H := H2) hob).2]
    exact .inr ⟨by rw [← c2 F2 H2 sF]; exact hcs, p, cls, _, _, _, rfl, rfl, by rw [e p (by simp)]; exact hp, rfl, al2⟩
theorem tup_step {K : Fg} {F H : Hp} : ∀ {n : Nat} {k k1 : Kd} {xs : List V} {ds : List D} {fs : List (List Addr)} {d1 : D}, (Ow2 K F H k).t xs ds fs → stepK (.ix n) k = some k1 → ds[n]? = some d1 →
    ∃ v1 fn fa fb, xs[n]? = some v1 ∧ Ow K F H k1 v1 d1 fn ∧ fs = fa ++ fn :: fb ∧
      ∀ F2 H2 d2 fp2, Same F F2 → (∀ f ∈ fa, ∀ q ∈ f, H2 q = H q) → (∀ f ∈ fb, ∀ q ∈ f, H2 q = H q) → Ow K F2 H2 k1 v1 d2 fp2 → (Ow2 K F2 H2 k).t xs (ds.set n d2) (fa ++ fp2 :: fb)
  | n, .tc k r, k1, xs, ds, fs, d1, h, hk, hd => by
    obtain ⟨x, d, f, xr, dr, fr, rfl, rfl, rfl, h1, h2⟩ := h
    cases n with
    | zero =>
      cases hk
      cases hd
      exact ⟨x, f, [], fr, rfl, h1, rfl, fun F2 H2 d2 fp2 sF _ hb o => ⟨x, d2, fp2, xr, dr, fr, rfl, rfl, rfl, o, (ow2_mono sF r).2.2.2 xr dr fr h2 hb⟩⟩
    | succ n =>
      obtain ⟨v1, fn, fa, fb, e1, o1, rfl, w⟩ := tup_step (n := n) (d1 := d1) h2 (show stepK (.ix n) r = some k1 from hk) (by simpa using hd)
      refine ⟨v1, fn, f :: fa, fb, by simpa using e1, o1, rfl, fun F2 H2 d2 fp2 sF ha hb o => ?_⟩
      exact ⟨x, d, f, xr, _, _, rfl, rfl, rfl, (ow2_mono sF k).1 x d f h1 (ha f (by simp)), w F2 H2 d2 fp2 sF (fun f' hf => ha f' (by simp [hf])) hb o⟩
  | n, .sh, _, _, _, _, _, h, _, _ => h.elim
  | n, .ls _, _, _, _, _, _, h, _, _ => h.elim
  | n, .pm _, _, _, _, _, _, h, _, _ => h.elim
  | n, .dc _, _, _, _, _, _, h, _, _ => h.elim
  | n, .hx _ _, _, _, _, _, _, h, _, _ => h.elim
  | n, .sd, _, _, _, _, _, h, _, _ => h.elim
  | n, .oe _, _, _, _, _, _, h, _, _ => h.elim
  | n, .of _ _ _, _, _, _, _, _, h, _, _ => h.elim
  | n, .op _, _, _, _, _, _, h, _, _ => h.elim
  | n, .xr _, _, _, _, _, _, h, _, _ => h.elim
  | n, .te, _, _, _, _, _, h, _, hd => by obtain ⟨rfl, rfl, rfl⟩ := h; simp at hd
theorem ow_step {K : Fg} {F H : Hp} {s : Sel} : ∀ {k k' : Kd} {v : V} {d d' : D} {fp : List Addr}, Ow K F H k v d fp → stepK s k = some k' → getS s d = some d' → fp.Nodup →
    ∃ v' fp', VS H v s v' ∧ (∀ H2, (∀ q ∈ fp, H2 q = H q) → VS H2 v s v') ∧ Ow K F H k' v' d' fp' ∧ (∀ q ∈ fp', q ∈ fp) ∧ fp'.Nodup ∧ Wand K F H k k' v v' fp fp' (setS s d)
  | .ls k1, k', v, d, d', fp, ow, hk, hg, nd => by
    cases s with
    | fd f => cases hk
    | ix n =>
      cases hk
      obtain ⟨p, xs, ds, fs, rfl, rfl, hp, rfl, al⟩ := ow
      obtain ⟨xa, u, xb, da, db, fa, fn, fb, rfl, rfl, rfl, l1, l2, h1, h2, h3⟩ := al.split (show ds[n]? = some d' from hg)
      have hx : (xa ++ u :: xb)[n]? = some u := by rw [List.getElem?_append_right (by omega), l1]; simp
      have efp : ∀ f : List Addr, p :: (fa ++ f :: fb).flatten = [p] ++ (fa.flatten ++ (f ++ fb.flatten)) := fun f => by simp
      have inn : ∀ q, q ∈ fn → q ∈ p :: (fa ++ fn :: fb).flatten := fun q hq => by simp [hq]
      have nd' := nd
      rw [efp] at nd'
      have ndn : fn.Nodup := by
        simp only [List.nodup_append] at nd'
        exact nd'.2.1.2.1.1
      refine ⟨u, fn, ⟨p, _, rfl, .inl hp, hx⟩, fun H2 e => ⟨p, _, rfl, .inl (by rw [e p (by simp)]; exact hp), hx⟩, h2, inn, ndn, fun F2 H2 d2 fp2 sF e ow2 dj2 nd2 => ?_⟩
      obtain ⟨s1, s2⟩ := nd_swap nd' nd2 (fun q hq hq' => dj2 q hq (by rw [efp]; exact hq'))
      have dis : ∀ q, q ∈ [p] ∨ q ∈ fa.flatten ∨ q ∈ fb.flatten → q ∉ fn := fun q hq z => by
        simp only [List.nodup_append, List.mem_append] at nd'
        obtain ⟨_, ⟨_, ⟨_, _, d3⟩, d2⟩, d1⟩ := nd'
        rcases hq with hq | hq | hq
        · exact d1 q hq q (.inr (.inl z)) rfl
        · exact d2 q hq q (.inl z) rfl
        · exact d3 q z q hq rfl
      have kp : ∀ q, q ∈ [p] ∨ q ∈ fa.flatten ∨ q ∈ fb.flatten → H2 q = H q := fun q hq => e q (by
        rw [efp]
        simp only [List.mem_append]
        rcases hq with hq | hq | hq
        · exact .inl hq
        · exact .inr (.inl hq)
        · exact .inr (.inr (.inr hq))) (dis q hq)
      refine ⟨p :: (fa ++ fp2 :: fb).flatten, .list (da ++ d2 :: db), ?_, ⟨p, _, _, _, rfl, rfl, by rw [kp p (.inl (by simp))]; exact hp, rfl, (h1.imp fun a b c hc o => ow_mono sF o fun q hq => kp q (.inr (.inl (List.mem_flatten.mpr ⟨c, hc, hq⟩)))).append (.cons ow2 (h3.imp fun a b c hc o => ow_mono sF o fun q hq => kp q (.inr (.inr (List.mem_flatten.mpr ⟨c, hc, hq⟩)))))⟩, by rw [efp]; exact s1, fun q hq => ?_⟩
      · show some (PyData.list ((da ++ d' :: db).set n d2)) = _
        rw [List.set_append_right _ _ (by omega), l2]
        simp
      · rw [efp] at hq ⊢
        exact s2 q hq
  | .op k1, k', v, d, d', fp, ow, hk, hg, nd => by
    rcases ow with ⟨_, rfl, _⟩ | ow
    · cases s <;> cases hg
    · have hk' : stepK s k1 = some k' := by
        cases s with
        | ix n => cases n <;> exact hk
        | fd f => exact hk
      obtain ⟨v', fp', a1, a2, a3, a4, a5, w⟩ := ow_step (k := k1) ow hk' hg nd
      refine ⟨v', fp', a1, a2, a3, a4, a5, fun F2 H2 d2 fp2 sF e o dj n2 => ?_⟩
      obtain ⟨fp3, d3, b1, b2, b3, b4⟩ := w F2 H2 d2 fp2 sF e o dj n2
      exact ⟨fp3, d3, b1, .inr b2, b3, b4⟩
  | .tc k r, k', v, d, d', fp, ow, hk, hg, nd => by
    cases s with
    | fd f => cases hk
    | ix n =>
      obtain ⟨p, xs, ds, fs, rfl, rfl, hp, rfl, al⟩ := ow
      obtain ⟨u, fn, fa, fb, hx, h2, rfl, w⟩ := tup_step (k := .tc k r) (d1 := d') al hk (show ds[n]? = some d' from hg)
      have efp : ∀ f : List Addr, p :: (fa ++ f :: fb).flatten = [p] ++ (fa.flatten ++ (f ++ fb.flatten)) := fun f => by simp
      have inn : ∀ q, q ∈ fn → q ∈ p :: (fa ++ fn :: fb).flatten := fun q hq => by simp [hq]
      have nd' := nd
      rw [efp] at nd'
      have ndn : fn.Nodup := by
        simp only [List.nodup_append] at nd'
        exact nd'.2.1.2.1.1
      refine ⟨u, fn, ⟨p, _, rfl, .inr hp, hx⟩, fun H2 e => ⟨p, _, rfl, .inr (by rw [e p (by simp)]; exact hp), hx⟩, h2, inn, ndn, fun F2 H2 d2 fp2 sF e ow2 dj2 nd2 => ?_⟩
      obtain ⟨s1, s2⟩ := nd_swap nd' nd2 (fun q hq hq' => dj2 q hq (by rw [efp]; exact hq'))
      have dis : ∀ q, q ∈ [p] ∨ q ∈ fa.flatten ∨ q ∈ fb.flatten → q ∉ fn := fun q hq z => by
        simp only [List.nodup_append, List.mem_append] at nd'
        obtain ⟨_, ⟨_, ⟨_, _, d3⟩, d2⟩, d1⟩ := nd'
        rcases hq with hq | hq | hq
        · exact d1 q hq q (.inr (.inl z)) rfl
        · exact d2 q hq q (.inl z) rfl
        · exact d3 q z q hq rfl
      have kp : ∀ q, q ∈ [p] ∨ q ∈ fa.flatten ∨ q ∈ fb.flatten → H2 q = H q := fun q hq => e q (by
        rw [efp]
        simp only [List.mem_append]
        rcases hq with hq | hq | hq
        · exact .inl hq
        · exact .inr (.inl hq)
        · exact .inr (.inr (.inr hq))) (dis q hq)
      refine ⟨p :: (fa ++ fp2 :: fb).flatten, .tuple (ds.set n d2), rfl, ⟨p, xs, _, _, rfl, rfl, by rw [kp p (.inl (by simp))]; exact hp, rfl, w F2 H2 d2 fp2 sF (fun f hf q hq => kp q (.inr (.inl (List.mem_flatten.mpr ⟨f, hf, hq⟩)))) (fun f hf q hq => kp q (.inr (.inr (List.mem_flatten.mpr ⟨f, hf, hq⟩)))) ow2⟩, by rw [efp]; exact s1, fun q hq => ?_⟩
      rw [efp] at hq ⊢
      exact s2 q hq
  | .sh, _, _, _, _, _, _, hk, _, _ => by cases s with | ix n => cases n <;> cases hk | fd f => cases hk
  | .pm _, _, _, _, _, _, _, hk, _, _ => by cases s with | ix n => cases n <;> cases hk | fd f => cases hk
  | .dc _, _, _, _, _, _, _, hk, _, _ => by cases s with | ix n => cases n <;> cases hk | fd f => cases hk
  | .hx _ _, _, _, _, _, _, _, hk, _, _ => by cases s with | ix n => cases n <;> cases hk | fd f => cases hk
  | .sd, _, _, _, _, _, _, hk, _, _ => by cases s with | ix n => cases n <;> cases hk | fd f => cases hk
  | .te, _, _, _, _, _, _, hk, _, _ => by cases s with | ix n => cases n <;> cases hk | fd f => cases hk
  | .xr _, _, _, _, _, _, _, hk, _, _ => by cases s with | ix n => cases n <;> cases hk | fd f => cases hk
  | .oe cs, k', v, d, d', fp, ow, hk, hg, nd => by
    cases s with
    | ix n => cases n <;> cases hk
    | fd f => exact ob_step rfl ow (Option.some.inj hk).symm hg nd
  | .of g k r, k', v, d, d', fp, ow, hk, hg, nd => by
    cases s with
    | ix n => cases n <;> cases hk
    | fd f => exact ob_step rfl ow (Option.some.inj hk).symm hg nd
/-- a thing at a place: it, and how the whole is put together again when it was changed -/
theorem ow_path {K : Fg} {F H : Hp} : ∀ {π : List Sel} {k k' : Kd} {v : V} {d d' : D} {fp : List Addr}, Ow K F H k v d fp → kdP π k = some k' → getP π d = some d' → fp.Nodup →
    ∃ v' fp', VP H v π v' ∧ (∀ H2, (∀ q ∈ fp, H2 q = H q) → VP H2 v π v') ∧ Ow K F H k' v' d' fp' ∧ (∀ q ∈ fp', q ∈ fp) ∧ fp'.Nodup ∧ Wand K F H k k' v v' fp fp' (setP π d) := by
  intro π
  induction π with
  | nil =>
    intro k k' v d d' fp ow hk hg nd
    cases hk
    cases hg
    exact ⟨v, fp, rfl, fun _ _ => rfl, ow, fun _ h => h, nd, fun F2 H2 d2 fp2 _ _ ow2 _ nd2 => ⟨fp2, d2, rfl, ow2, nd2, fun q hq => .inl hq⟩⟩
  | cons s π ih =>
    intro k k' v d d' fp ow hk hg nd
    unfold kdP at hk
    unfold getP at hg
    cases hs : stepK s k with
    | none => rw [hs] at hk; cases hk
    | some k1 =>
      cases hd : getS s d with
      | none => rw [hd] at hg; cases hg
      | some d1 =>
        rw [hs] at hk
        rw [hd] at hg
        obtain ⟨v1, fp1, a1, a2, a3, a4, a5, w1⟩ := ow_step ow hs hd nd
        obtain ⟨v2, fp2', b1, b2, b3, b4, b5, w2⟩ := ih (d' := d') a3 hk hg a5
        refine ⟨v2, fp2', ⟨v1, a1, b1⟩, fun H2 e => ⟨v1, a2 H2 e, b2 H2 fun q hq => e q (a4 q hq)⟩, b3, fun q hq => a4 q (b4 q hq), b5, fun F2 H2 d2 fp2 sF e ow2 dj2 nd2 => ?_⟩
        obtain ⟨fp3, d3, e3, o3, n3, s3⟩ := w2 F2 H2 d2 fp2 sF (fun q hq hn => e q (a4 q hq) hn) ow2 (fun q hq hq' => dj2 q hq (a4 q hq')) nd2
        obtain ⟨fp4, d4, e4, o4, n4, s4⟩ := w1 F2 H2 d3 fp3 sF (fun q hq hn => e q hq fun z => hn (b4 q z)) o3 (fun q hq hq' => by
          rcases s3 q hq with h | h
          · exact b4 q (dj2 q h hq')
          · exact h.1) n3
        refine ⟨fp4, d4, ?_, o4, n4, fun q hq => ?_⟩
        · unfold setP
          rw [hd]
          dsimp only
          rw [e3]
          exact e4
        · rcases s4 q hq with h | ⟨h1, h2⟩
          · rcases s3 q h with h | ⟨h3, h4⟩
            · exact .inl h
            · exact .inr ⟨a4 q h3, h4⟩
          · exact .inr ⟨h1, fun z => h2 (b4 q z)⟩
theorem recK_inj : ∀ {fs gs : List (Str × V)}, recK fs = recK gs → fs = gs := fun {fs gs} h => by
  have h' : (fs.map fun x => ((Sum.inr x.1 : Key), x.2)) = gs.map fun x => ((Sum.inr x.1 : Key), x.2) := by
    unfold recK at h
    injection h
  induction fs generalizing gs with
  | nil => cases gs with
    | nil => rfl
    | cons y ys => cases h'
  | cons x xs ih => cases gs with
    | nil => cases h'
    | cons y ys =>
      rw [List.map_cons, List.map_cons] at h'
      injection h' with h1 h2
      have h3 := Prod.mk.inj h1
      have h4 : x = y := Prod.ext (Sum.inr.inj h3.1) h3.2
      rw [h4, ih (by unfold recK; rw [h2]) h2]
theorem VS.fun {H : Hp} {s : Sel} {v u w : V} (h : VS H v s u) (g : VS H v s w) : u = w := by
  cases s with
  | ix n =>
    obtain ⟨p, xs, rfl, e2, e3⟩ := h
    obtain ⟨p', xs', f1, f2, f3⟩ := g
    cases f1
    have : xs = xs' := by
      rcases e2 with e2 | e2 <;> rcases f2 with f2 | f2 <;> (rw [e2] at f2; cases f2; try rfl)
    subst this
    rw [e3] at f3
    exact Option.some.inj f3
  | fd f =>
    obtain ⟨p, fs, rfl, e2, e3⟩ := h
    obtain ⟨p', fs', f1, f2, f3⟩ := g
    cases f1
    have : fs = fs' := by
      rcases e2 with ⟨C, dx, e2⟩ | e2 <;> rcases f2 with ⟨C', dx', f2⟩ | f2
      · rw [e2] at f2; cases f2; rfl
      · rw [e2] at f2; exact nomatch (Option.some.inj f2)
      · rw [e2] at f2; exact nomatch (Option.some.inj f2)
      · rw [e2] at f2; exact recK_inj (Option.some.inj f2)
    subst this
    rw [e3] at f3
    exact Option.some.inj f3
theorem VP.fun {H : Hp} : ∀ {π : List Sel} {v u w : V}, VP H v π u → VP H v π w → u = w
  | [], _, _, _, h, g => h.symm.trans g
  | s :: π, _, _, _, ⟨a, h1, h⟩, ⟨b, g1, g⟩ => by
    have := VS.fun h1 g1
    subst this
    exact VP.fun h g
theorem kdP_append : ∀ {π ρ : List Sel} {k k' : Kd}, kdP π k = some k' → kdP (π ++ ρ) k = kdP ρ k'
  | [], _, _, _, h => by cases h; rfl
  | s :: π, ρ, k, k', h => by
    unfold kdP at h
    show (match stepK s k with | some k' => kdP (π ++ ρ) k' | none => none) = _
    cases z : stepK s k with
    | none => rw [z] at h; cases h
    | some k1 => rw [z] at h; exact kdP_append (π := π) h
theorem getP_append : ∀ {π ρ : List Sel} {d d' : D}, getP π d = some d' → getP (π ++ ρ) d = getP ρ d'
  | [], _, _, _, h => by cases h; rfl
  | s :: π, ρ, d, d', h => by
    unfold getP at h
    show (match getS s d with | some d' => getP (π ++ ρ) d' | none => none) = _
    cases z : getS s d with
    | none => rw [z] at h; cases h
    | some x => rw [z] at h; exact getP_append h
theorem VP.append {H : Hp} : ∀ {π ρ : List Sel} {v u w : V}, VP H v π u → VP H u ρ w → VP H v (π ++ ρ) w
  | [], _, _, _, _, h, g => by cases h; exact g
  | s :: π, _, _, _, _, ⟨a, h1, h⟩, g => ⟨a, h1, VP.append h g⟩
end Z
set_option Elab.async false
set_option linter.all false
set_option maxRecDepth 100000
namespace Z
open PySem L2
def asd (fps : Nat → List Addr) (i : Nat) : Nat → List Addr := fun j => if j = i then [] else fps j
/-- what is kept as it is while the rest goes on -/
structure Pt (K : Fg) (c : Ctx) (F H : Hp) (k : Kd) (w : V) (d : D) (fp : List Addr) : Prop where
  ow : Ow K F H k w d fp
  nd : fp.Nodup
  pr : ∀ q ∈ fp, F q = none ∧ H q ≠ none ∧ c.F0 q = none ∧ c.H0 q = H q ∧ ¬ c.own q
section
variable {K : Fg} {c : Ctx} {Ob O : List Kd} {F H F1 H1 F2 H2 F3 H3 : Hp} {σ : St} {fps fps1 fps2 fps3 : Nat → List Addr} {ds s1 s2 s3 : DS} {k k' k1 : Kd} {w v : V} {d d' : D} {fp : List Addr} {i : Nat} {te ti tp : TE} {m me : M D}
theorem Pt.stay (p : Pt K c F H k w d fp) (r : Rel K c O F2 H2 σ fps2 s2) (s : Same F F2) : Pt K c F2 H2 k w d fp ∧ (∀ q ∈ fp, H2 q = H q) ∧ ∀ q ∈ fp, ∀ j, q ∉ fps2 j := by
  have e : ∀ q ∈ fp, H2 q = H q := fun q hq => by
    obtain ⟨h1, h2, h3, h4, h5⟩ := p.pr q hq
    cases z : H q with
    | none => exact absurd z h2
    | some o => exact r.keep q o (by rw [h4]; exact z) h5
  refine ⟨⟨ow_mono s p.ow e, p.nd, fun q hq => ?_⟩, e, fun q hq j hj => ?_⟩
  · obtain ⟨h1, h2, h3, h4, h5⟩ := p.pr q hq
    refine ⟨?_, by rw [e q hq]; exact h2, h3, by rw [e q hq]; exact h4, h5⟩
    cases z : F2 q with
    | none => rfl
    | some o =>
      rcases r.new q o z with h | h
      · rw [h3] at h; cases h
      · rw [h4] at h; exact absurd h h2
  · obtain ⟨h1, h2, h3, h4, h5⟩ := p.pr q hq
    rcases (r.off j q hj).2.2 with h | ⟨h, _⟩
    · rw [h4] at h; exact h2 h
    · exact h5 ⟨_, h⟩
theorem asd_sub {q : Addr} {j : Nat} (h : q ∈ asd fps i j) : j ≠ i ∧ q ∈ fps j := by
  unfold asd at h
  by_cases z : j = i
  · rw [if_pos z] at h; exact absurd h (by simp)
  · rw [if_neg z] at h; exact ⟨z, h⟩
/-- a slot's thing set aside -/
theorem Rel.pt (r : Rel K c O F H σ fps ds) (i : Nat) (hd : ds[i]? = some (some d)) : ∃ w, σ[i]? = some (some w) ∧ Rel K (c.from O F H (asd fps i)) O F H σ (asd fps i) (ds.set i none) ∧ Pt K (c.from O F H (asd fps i)) F H (unpm (O.getD i .sh)) w d (fps i) := by
  obtain ⟨w, hw, ow⟩ := r.slots i d hd
  have ra : Rel K c O F H σ (asd fps i) (ds.set i none) := r.aside i
  refine ⟨w, hw, ra.focus, ⟨by rw [ow_unpm]; exact ow, r.nd i, fun q hq => ?_⟩⟩
  obtain ⟨h1, h2, _⟩ := r.off i q hq
  have hn : ∀ j, q ∉ asd fps i j := fun j hj => by
    obtain ⟨z, hj⟩ := asd_sub hj
    exact r.dj j i z q hj hq
  exact ⟨h1, h2, h1, from_some fun ⟨j, hj, _⟩ => hn j hj, fun ⟨j, hj, _⟩ => hn j hj⟩
/-- .. and put back, changed -/
theorem Rel.putback (r1 : Rel K c O F1 H1 σ fps1 s1) (hw : σ[i]? = some (some w)) (r3 : Rel K (c.from O F1 H1 (asd fps1 i)) O F3 H3 σ fps3 s3) {p : Addr} {o : HO} {d4 : D} {fp4 : List Addr} (hp : p ∈ fps1 i)
    (ow : Ow K F3 (upd H3 p o) (unpm (O.getD i .sh)) w d4 fp4) (nd : fp4.Nodup) (hq : ∀ q ∈ fp4, q ∈ fps1 i ∨ (F3 q = none ∧ H3 q ≠ none ∧ c.H0 q = none ∧ ∀ j, q ∉ fps3 j)) :
    Rel K c O F3 (upd H3 p o) σ (fun j => if j = i then fp4 else fps3 j) (s3.set i (some d4)) := by
  have ra : Rel K c O F1 H1 σ (asd fps1 i) (s1.set i none) := r1.aside i
  have rc := ra.unfocus' r3
  have hn : ∀ q ∈ fps1 i, ∀ j, q ∉ asd fps1 i j := fun q hq j hj => by
    obtain ⟨z, hj⟩ := asd_sub hj
    exact r1.dj j i z q hj hq
  have out := fun q (hq : q ∈ fps1 i) => r3.out (r1.off i q hq).1 (r1.off i q hq).2.1 (hn q hq)
  have h0 : ∀ q ∈ fps1 i, c.H0 q = none ∨ (c.ow i q ∧ isPm O[i]? = true) := fun q hq => (r1.off i q hq).2.2
  have ru := rc.updP (p := p) (out p hp).2.1 ((h0 p hp).imp id fun z => ⟨_, z.1⟩) (out p hp).2.2 o
  have ow' : Ow K F3 (upd H3 p o) (O.getD i .sh) w d4 fp4 := by rw [← ow_unpm]; exact ow
  refine ru.again hw ow' (fun q hq4 => ?_) nd
  rcases hq q hq4 with h | ⟨h1, h2, h3, h4⟩
  · refine ⟨(out q h).2.1, ?_, h0 q h, fun j _ => (out q h).2.2 j⟩
    by_cases z : q = p
    · rw [z, upd_same]; simp
    · rw [upd_ne z, (out q h).1]; exact (r1.off i q h).2.1
  · refine ⟨h1, ?_, .inl h3, fun j _ => h4 j⟩
    by_cases z : q = p
    · rw [z, upd_same]; simp
    · rw [upd_ne z]; exact h2
/-- a place of slot i's thing -/
structure DPl (K : Fg) (c : Ctx) (O : List Kd) (i : Nat) (k : Kd) (t : TE) (mp : D → M (List Sel)) (k' : Kd) : Prop where
  kd : ∀ {d : D} {ds ds' : DS} {π : List Sel}, mp d ds = .ok π ds' → kdP π k = some k'
  run : ∀ {F H : Hp} {σ : St} {fps : Nat → List Addr} {ds ds' : DS} {π : List Sel} {w : V} {d : D} {fp : List Addr}, Rel K c O F H σ fps ds → mp d ds = .ok π ds' → σ[i]? = some (some w) → Pt K c F H k w d fp → (getP π d).isSome = true →
    ∀ Q : VK, (∀ F' H' fps' v, Same F F' → Rel K c O F' H' σ fps' ds' → VP H' w π v → Q v H') → t σ H Q
def plR : D → M (List Sel) := fun _ s => .ok [] s
def plIx (mp : D → M (List Sel)) (me : M D) : D → M (List Sel) := fun d => bnd (mp d) fun π => bnd me fun z => opt (match z, getP π d with
  | .int j, some (.list xs) => (ixN xs.length j).map fun n => π ++ [.ix n]
  | _, _ => none)
theorem pl_root : DPl K c O i k (tVar i) plR k := ⟨fun e => by cases e; rfl, fun r e hw p _ Q q => by
  cases e
  exact ⟨_, hw, q _ _ _ _ (Same.refl _) r rfl⟩⟩
theorem ixN_lt {l : Nat} {j : Int} {n : Nat} (h : ixN l j = some n) : n < l := by
  unfold ixN at h
  split at h
  · split at h
    · cases h; omega
    · cases h
  · split at h
    · cases h; omega
    · cases h
theorem plIx_ok {mp : D → M (List Sel)} {d : D} {ds ds' : DS} {π : List Sel} (e : plIx mp me d ds = .ok π ds') : ∃ ρ s1 j xs n, mp d ds = .ok ρ s1 ∧ me s1 = .ok (.int j) ds' ∧ getP ρ d = some (.list xs) ∧ ixN xs.length j = some n ∧ π = ρ ++ [.ix n] := by
  obtain ⟨ρ, s1, e1, e⟩ := bnd_ok e
  obtain ⟨z, s2, e2, e⟩ := bnd_ok e
  obtain ⟨e, hs⟩ := opt_ok e
  subst hs
  cases z with
  | int j =>
    cases hx : getP ρ d with
    | none => rw [hx] at e; cases e
    | some x =>
      rw [hx] at e
      cases x with
      | list xs =>
        dsimp only at e
        cases hn : ixN xs.length j with
        | none => rw [hn] at e; cases e
        | some n => rw [hn] at e; cases e; exact ⟨ρ, s1, j, xs, n, e1, e2, hx, hn, rfl⟩
      | _ => cases e
  | _ => cases e
theorem pl_ix {mp : D → M (List Sel)} (h : DPl K c O i k tp mp (.ls k1)) (he : DE K c O te me) : DPl K c O i k (tOp (rIx K) tp te) (plIx mp me) k1 := ⟨fun {d ds ds' π} e => by
  obtain ⟨ρ, s1, j, xs, n, e1, e2, hx, hn, rfl⟩ := plIx_ok e
  rw [kdP_append (h.kd e1)]
  rfl, fun {F H σ fps ds ds' π w d fp} r e hw p hg Q q => by
  obtain ⟨ρ, s1, j, xs, n, e1, e2, hx, hn, rfl⟩ := plIx_ok e
  refine h.run r e1 hw p (by rw [hx]; rfl) _ fun F1 H1 fps1 v sF r1 vp => ?_
  obtain ⟨p1, a1, _⟩ := p.stay r1 sF
  refine he.run r1 e2 _ fun F2 H2 fps2 z sF2 r2 dp => ?_
  obtain ⟨p2, a2, _⟩ := p1.stay r2 sF2
  cases dp
  obtain ⟨v', fp', vp', _, ow', sub, _, _⟩ := ow_path p2.ow (h.kd e1) hx p2.nd
  obtain ⟨v1, fp1, vq, vq2, _, _, _, _⟩ := ow_path p1.ow (h.kd e1) hx p1.nd
  have ev : v = v' := by
    have := vq2 H2 a2
    rw [VP.fun vp vq]
    exact VP.fun this vp'
  subst ev
  obtain ⟨a, ys, es, fs, rfl, e3, ha, _, al⟩ := ow'
  cases e3
  have hl := al.len.1
  have hlt : n < xs.length := ixN_lt hn
  obtain ⟨u, hu⟩ : ∃ u, ys[n]? = some u := ⟨_, List.getElem?_eq_getElem (by omega)⟩
  refine .inl ⟨a, ys, j, u, rfl, rfl, SqL.of ha, ?_, q F2 H2 fps2 _ (sF.trans sF2) r2 (VP.append vp' ⟨_, ⟨a, ys, rfl, .inl ha, hu⟩, rfl⟩)⟩
  unfold atI
  rw [hl, hn]
  exact hu⟩
/-- x.. [e] = v -/
def sPutP (i : Nat) (mp : D → M (List Sel)) (me m : M D) : MS := fun s => match m s with
  | .ok v s1 => match s1[i]? with
    | some (some d) => match mp d (s1.set i none) with
      | .ok π s2 => match me s2 with
        | .ok z s3 => match z, getP π d with
          | .int j, some (.list xs) => match ixN xs.length j with
            | some n => match setP π d (.list (xs.set n v)) with
              | some d' => .nx (s3.set i (some d'))
              | none => .no
            | none => .no
          | _, _ => .no
        | .no => .no
      | .no => .no
    | _ => .no
  | .no => .no
theorem ls_sh {F H : Hp} {v : V} {d : D} {fp : List Addr} (h : Ow K F H (.ls .sh) v d fp) : ∃ p xs ds, v = .ref p ∧ d = .list ds ∧ H p = some (.lst xs) ∧ fp = [p] ∧ DpAll K F xs ds := ow_ls (k := .ls .sh) rfl h
theorem c_putP {mp : D → M (List Sel)} (i : Nat) (hm : DE K c O te m) (hp : ∀ c', DPl K c' O i (unpm (O.getD i .sh)) tp mp (.ls .sh)) (he : ∀ c', DE K c' O ti me) : DC K c Ob O (tAsg te (gSub tp ti rSetL)) (sPutP i mp me m) O := ⟨fun {F H σ fps ds} r E p => by
  unfold sPutP at p
  cases e : m ds with
  | no => rw [e] at p; exact p.elim
  | ok x s1 =>
    rw [e] at p
    dsimp only at p
    refine hm.run r e _ fun F1 H1 fps1 vx sF r1 dp => ?_
    split at p
    · rename_i d hd
      obtain ⟨w, hw, rf, pt⟩ := r1.pt i hd
      cases e1 : mp d (s1.set i none) with
      | no => rw [e1] at p; exact p.elim
      | ok π s2 =>
        rw [e1] at p
        dsimp only at p
        cases e2 : me s2 with
        | no => rw [e2] at p; exact p.elim
        | ok z s3 =>
          rw [e2] at p
          dsimp only at p
          split at p
          · rename_i j xs hx
            split at p
            · rename_i n hn
              split at p
              · rename_i d' hs
                refine (hp _).run rf e1 hw pt (by rw [hx]; rfl) _ fun F2 H2 fps2 v sF2 r2 vp => ?_
                obtain ⟨p2, a2, _⟩ := pt.stay r2 sF2
                refine (he _).run r2 e2 _ fun F3 H3 fps3 zz sF3 r3 dz => ?_
                obtain ⟨p3, a3, _⟩ := p2.stay r3 sF3
                cases dz
                obtain ⟨v3, fp3, vp3, _, ow3, sub3, nd3, wand⟩ := ow_path p3.ow ((hp c).kd e1) hx p3.nd
                obtain ⟨v2, _, vq, vq2, _, _, _, _⟩ := ow_path p2.ow ((hp c).kd e1) hx p2.nd
                have ev : v = v3 := by rw [VP.fun vp vq]; exact VP.fun (vq2 H3 a3) vp3
                subst ev
                obtain ⟨a, ys, es, rfl, e3, ha, rfl, al⟩ := ls_sh ow3
                cases e3
                refine ⟨a, ys, j, n, rfl, rfl, ha, by rw [dpa_len al]; exact hn, ?_⟩
                have hF : F3 a = none := (p3.pr a (sub3 a (by simp))).1
                obtain ⟨fp4, d4, es4, ow4, nd4, sub4⟩ := wand F3 (upd H3 a (.lst (ys.set n vx))) (.list (xs.set n x)) [a] (Same.refl _) (fun q hq hn' => upd_ne fun y => hn' (by simp [y])) (ls_ow upd_same (dpa_set (dp_mono (sF2.trans sF3) dp) n al)) (fun q hq _ => hq) (by simp)
                rw [hs] at es4
                cases es4
                refine p F3 _ σ _ ((sF.trans sF2).trans sF3) (r1.putback hw r3 (sub3 a (by simp)) ow4 nd4 fun q hq => .inl ?_)
                rcases sub4 q hq with h | h
                · have : q = a := by simpa using h
                  rw [this]; exact sub3 a (by simp)
                · exact h.1
              · exact p.elim
            · exact p.elim
          · exact p.elim
    · exact p.elim⟩
/-- x..append(v) -/
def sAppP (i : Nat) (mp : D → M (List Sel)) (m : M D) : MS := fun s => match s[i]? with
  | some (some d) => match mp d (s.set i none) with
    | .ok π s2 => match m s2 with
      | .ok v s3 => match getP π d with
        | some (.list xs) => if decide (xs.length < sizeLine) then (match setP π d (.list (xs ++ [v])) with
          | some d' => .nx (s3.set i (some d'))
          | none => .no) else .no
        | _ => .no
      | .no => .no
    | .no => .no
  | _ => .no
theorem c_appP {mp : D → M (List Sel)} (i : Nat) (hp : ∀ c', DPl K c' O i (unpm (O.getD i .sh)) tp mp (.ls .sh)) (hm : ∀ c', DE K c' O te m) : DC K c Ob O (tDrop (tBM K "list" rAppend tp (tCons te tNil))) (sAppP i mp m) O := ⟨fun {F H σ fps ds} r E p => by
  unfold sAppP at p
  split at p
  · rename_i d hd
    obtain ⟨w, hw, rf, pt⟩ := r.pt i hd
    cases e1 : mp d (ds.set i none) with
    | no => rw [e1] at p; exact p.elim
    | ok π s2 =>
      rw [e1] at p
      dsimp only at p
      cases e2 : m s2 with
      | no => rw [e2] at p; exact p.elim
      | ok x s3 =>
        rw [e2] at p
        dsimp only at p
        split at p
        · rename_i xs hx
          split at p
          · rename_i hz
            split at p
            · rename_i d' hs
              refine (hp _).run rf e1 hw pt (by rw [hx]; rfl) _ fun F2 H2 fps2 v sF2 r2 vp => ?_
              obtain ⟨p2, a2, _⟩ := pt.stay r2 sF2
              obtain ⟨v2, fp2, vq, vq2, ow2, _, _, _⟩ := ow_path p2.ow ((hp c).kd e1) hx p2.nd
              have ev2 : v = v2 := VP.fun vp vq
              subst ev2
              obtain ⟨a0, ys0, es0, rfl, _, ha0, _, _⟩ := ls_sh ow2
              refine ⟨.inl ⟨rfl, ys0, SqL.of ha0⟩, ?_⟩
              refine (hm _).run r2 e2 _ fun F3 H3 fps3 vx sF3 r3 dp => ?_
              obtain ⟨p3, a3, _⟩ := p2.stay r3 sF3
              obtain ⟨v3, fp3, vp3, _, ow3, sub3, nd3, wand⟩ := ow_path p3.ow ((hp c).kd e1) hx p3.nd
              have ev : V.ref a0 = v3 := VP.fun (vq2 H3 a3) vp3
              subst ev
              obtain ⟨a, ys, es, e4, e3, ha, rfl, al⟩ := ls_sh ow3
              cases e3
              cases e4
              refine ⟨a0, ys, vx, rfl, rfl, ha, by rw [dpa_len al]; exact of_decide_eq_true hz, ?_⟩
              obtain ⟨fp4, d4, es4, ow4, nd4, sub4⟩ := wand F3 (upd H3 a0 (.lst (ys ++ [vx]))) (.list (xs ++ [x])) [a0] (Same.refl _) (fun q hq hn' => upd_ne fun y => hn' (by simp [y])) (ls_ow upd_same (dpa_append al (.cons dp .nil))) (fun q hq _ => hq) (by simp)
              rw [hs] at es4
              cases es4
              refine p F3 _ σ _ (sF2.trans sF3) (r.putback hw r3 (sub3 a0 (by simp)) ow4 nd4 fun q hq => .inl ?_)
              rcases sub4 q hq with h | h
              · have : q = a0 := by simpa using h
                rw [this]; exact sub3 a0 (by simp)
              · exact h.1
            · exact p.elim
          · exact p.elim
        · exact p.elim
  · exact p.elim⟩
end
end Z
set_option Elab.async false
set_option linter.all false
set_option maxRecDepth 100000
set_option maxHeartbeats 4000000
namespace Z
open PySem L2 PyProof.Rows
/-! ### min(xs, key=abs) -/
def ab (x : Int) : Int := if x < 0 then -x else x
/-- the first one of the least size -/
def minA : Int → List Int → Int
  | b, [] => b
  | b, x :: r => if ab x < ab b then minA x r else minA b r
section
variable {prog : Program} {w : World} {A : Around} {E : Value → Shared → Prop} {s : Shared} {l I S : Addr} {vs : List Value} {ns : List Int} {R : Result → Shared → Prop}
theorem minAbs_loop (hh : A.handled = none) (hl : s.heap.IsList l vs.toArray) (hi : IntsAre vs ns) (hlI : l ≠ I) (hSI : S ≠ I) (hS : s.heap.get? S = none) (hI : s.heap.get? I = none) {best : Int}
    (hR : ∀ t h' tk', (∀ b o, s.heap.get? b = some o → h'.get? b = some o) → R (.ok (.ret (.int best t))) { s with heap := h', toks := tk' }) :
    ∀ (r j : Nat) (h : Heap) (tk : Nat) (b : Int) (t1 t2 : Tok) (c : Nat), ns.length - (j + 1) = r → j + 1 ≤ ns.length → (∀ b o, s.heap.get? b = some o → h.get? b = some o) →
      h.get? S = some (seqObj "list" #[.int b t1, .int (ab b) t2] c) → h.IsListIter I l (j + 1) → minA b (ns.drop (j + 1)) = best →
      codeAny (model prog w) A (.builtin "min.loop" ⟨[.ref I, .builtin "abs", .ref S], []⟩) R { s with heap := h, toks := tk } := by
  have hnm : (toString "min" ++ toString ".loop" : String) = "min.loop" := by decide
  have W := Walks.list (prog := prog) (w := w) (A := A.in1) hh I l hlI vs.toArray
  have hz : vs.toArray.size = ns.length := by rw [List.size_toArray]; exact hi.length
  have lst : ∀ h : Heap, (∀ b o, s.heap.get? b = some o → h.get? b = some o) → h.IsList l vs.toArray := fun h k => by
    obtain ⟨o, e, q⟩ := hl
    exact ⟨o, k _ _ e, q⟩
  intro r
  induction r with
  | zero =>
    intro j h tk b t1 t2 c hr hj k gS it hb
    have hin : j + 1 = ns.length := by omega
    refine codeAny_builtin PySem.F.entry_min_loop ?_
    rw [Around.under_plainId PySem.F.plain_min_loop _]
    refine wpAny_bind (m := seqItems? (.ref S)) (wpAny_seqItems gS rfl ?_)
    refine wpAny_bind (m := tryCatch (pyNext (.ref I)) _) (wpAny_tryCatch (W.done _ _ _ ⟨by rw [hz, ← hin]; exact it, lst h k⟩ fun h' tk' hk' => ?_))
    have gS' := hk' S _ (by simpa using hSI) gS
    refine wpAny_bind (m := updateSeq S (fun _ => #[])) (wpAny_updateSeq gS' rfl (wpAny_bind (wpAny_letGo (wpAny_pure ?_))))
    rw [List.drop_of_length_le (by omega)] at hb
    cases hb
    refine hR _ _ _ fun x o e => ?_
    have nS : S ≠ x := fun z => by rw [z, e] at hS; cases hS
    have nI : x ≠ I := fun z => by rw [← z, e] at hI; cases hI
    have e2 := (Heap.SameBut.update h' S (Obj.mapSeq fun _ => (#[] : Array Value))).2 x nS.symm
    exact e2.trans (hk' x o (by simpa using nI) (k x o e))
  | succ r ih =>
    intro j h tk b t1 t2 c hr hj k gS it hb
    have hlt : j + 1 < ns.length := by omega
    refine codeAny_builtin PySem.F.entry_min_loop ?_
    rw [Around.under_plainId PySem.F.plain_min_loop _]
    refine wpAny_bind (m := seqItems? (.ref S)) (wpAny_seqItems gS rfl ?_)
    refine wpAny_bind (m := tryCatch (pyNext (.ref I)) _) (wpAny_tryCatch (W.item (j + 1) _ _ _ (by rw [hz]; exact hlt) ⟨it, lst h k⟩ fun v h' tk' hP hst' hk' => ?_))
    obtain ⟨n, hn⟩ : ∃ n, ns[j + 1]? = some n := ⟨_, List.getElem?_eq_getElem hlt⟩
    obtain ⟨tn, htn⟩ := hi.get (j + 1) n hn
    have hv : v = .int n tn := by
      have : vs[j + 1]? = some v := by simpa using hP
      rw [htn] at this
      exact (Option.some.inj this).symm
    subst hv
    have hd : ns.drop (j + 1) = n :: ns.drop (j + 1 + 1) := by
      rw [List.drop_eq_getElem_cons hlt]
      congr 1
      rw [List.getElem?_eq_getElem hlt] at hn
      exact Option.some.inj hn
    rw [hd] at hb
    have k' : ∀ x o, s.heap.get? x = some o → h'.get? x = some o := fun x o e => hk' x o (by
      have nI : x ≠ I := fun z => by rw [← z, e] at hI; cases hI
      simpa using nI) (k x o e)
    have gS' := hk' S _ (by simpa using hSI) gS
    refine wpAny_bind (m := tryCatch (holding [Value.int n tn] (call (.builtin "abs") [Value.int n tn])) _) (wpAny_tryCatch (wpAny_holding (call_abs_int fun u tk2 => ?_)))
    refine wpAny_bind (m := tryCatch (holding [Value.int n tn, .int (ab n) u] (richCompare .Lt (.int (ab n) u) (.int (ab b) t2) >>= _)) _) (wpAny_tryCatch (wpAny_holding (wpAny_bind (CmpOf.ints_lt (prog := prog) (w := w) (A := A.in1) (P := fun i v => ∃ t, v = .int (if i = 0 then ab n else ab b) t) (fun i => if i = 0 then ab n else ab b) (fun i v h => h) 0 1 _ _ _ _ _ ⟨u, rfl⟩ ⟨t2, rfl⟩ ?_))))
    refine wpAny_bind (wpAny_holding (wpAny_truthy_bool ?_))
    refine wpAny_bind (wpAny_letGo (wpAny_pure ?_))
    unfold minA at hb
    by_cases hb' : ab n < ab b
    · rw [if_pos hb'] at hb
      simp only [if_pos, hb', decide_true, if_true, Nat.one_ne_zero, if_false]
      refine wpAny_bind ?_
      refine wpAny_updateSeq gS' rfl (wpAny_bind (wpAny_letGo ?_))
      rw [hnm]
      have sb := Heap.SameBut.update h' S (Obj.mapSeq fun _ => #[Value.int n tn, Value.int (ab n) u])
      obtain ⟨c2, hc2⟩ : ∃ c2, (h'.update S (Obj.mapSeq fun _ => #[Value.int n tn, Value.int (ab n) u])).get? S = some (seqObj "list" #[Value.int n tn, Value.int (ab n) u] c2) := ⟨_, get?_update_seq gS' fun _ => #[Value.int n tn, Value.int (ab n) u]⟩
      obtain ⟨oI, hoI, hoc, hod⟩ := id hst'.1
      refine wpAny_pure ⟨plainId_quiet PySem.F.plain_min_loop _, ih (j + 1) _ _ n tn u c2 (by omega) hlt (fun x o e => ?_) hc2 ⟨oI, (sb.2 I hSI.symm).trans hoI, hoc, hod⟩ hb⟩
      have nS : x ≠ S := fun z => by rw [← z, e] at hS; cases hS
      exact (sb.2 x nS).trans (k' x o e)
    · rw [if_neg hb'] at hb
      simp only [if_pos, hb', decide_false, Bool.false_eq_true, if_false, Nat.one_ne_zero]
      refine wpAny_bind (wpAny_letGo ?_)
      rw [hnm]
      exact wpAny_pure ⟨plainId_quiet PySem.F.plain_min_loop _, ih (j + 1) _ _ b t1 t2 c (by omega) hlt k' gS' hst'.1 hb⟩
theorem min_abs {Q : Value → Shared → Prop} {n0 : Int} {nr : List Int} (hh : A.handled = none) (hl : s.heap.IsList l vs.toArray) (hi : IntsAre vs (n0 :: nr))
    (hQ : ∀ t h' tk', (∀ b o, s.heap.get? b = some o → h'.get? b = some o) → Q (.int (minA n0 nr) t) { s with heap := h', toks := tk' }) :
    wpAny (model prog w) A (call (.builtin "min") [.ref l] [(Str.ofString "key", .builtin "abs")]) Q E s := by
  have hnm : (toString "min" ++ toString ".loop" : String) = "min.loop" := by decide
  obtain ⟨ol, hol, hlq⟩ := id hl
  have hll : l < s.heap.objs.size := Heap.lt_size hol
  refine kmk_tree PySem.F.kind_min PySem.F.plain_min PySem.F.entry_min (kmk_min_key _ _) ?_
  refine wpAny_bind (m := Builtin.Builtins.bindParams "min" ["key", "default"] 0 ⟨[], [(Str.ofString "key", .builtin "abs")]⟩) (wpAny_of_eq (a := [some (Value.builtin "abs"), none]) rfl ?_)
  refine wpAny_bind (wpAny_pure (wpAny_bind (wpAny_pyIter_list hl (wpAny_bind (wpAny_newList ?_ (Nat.zero_le _))))))
  rw [hnm]
  let h1 := s.heap.push { cls := .type "list_iterator", data := .fields #[.ref l, .int 0 0] }
  have hS : h1.objs.size = s.heap.objs.size + 1 := size_push' ..
  have hlI : l ≠ s.heap.objs.size := Nat.ne_of_lt hll
  have hSI : h1.objs.size ≠ s.heap.objs.size := by rw [hS]; exact Nat.succ_ne_self _
  have zS : s.heap.get? h1.objs.size = none := Heap.get?_none_of_le (by rw [hS]; exact Nat.le_succ _)
  have zI : s.heap.get? s.heap.objs.size = none := Heap.get?_none_of_le (Nat.le_refl _)
  refine wpAny_pure ⟨plainId_quiet PySem.F.plain_min_loop _, ?_⟩
  have k0 : ∀ b o, s.heap.get? b = some o → (h1.push (seqObj "list" #[] 0)).get? b = some o := fun b o e => Heap.get?_push_of_some _ (Heap.get?_push_of_some _ e)
  have gI : (h1.push (seqObj "list" #[] 0)).get? s.heap.objs.size = some { cls := .type "list_iterator", data := .fields #[.ref l, .int 0 0] } := Heap.get?_push_of_some _ (Heap.get?_push_size _ rfl)
  have gS : (h1.push (seqObj "list" #[] 0)).get? h1.objs.size = some (seqObj "list" #[] 0) := Heap.get?_push_size _ rfl
  have W := Walks.list (prog := prog) (w := w) (A := A.in1) hh s.heap.objs.size l hlI vs.toArray
  have hz : vs.toArray.size = nr.length + 1 := by rw [List.size_toArray]; exact hi.length
  refine codeAny_builtin PySem.F.entry_min_loop ?_
  rw [Around.under_plainId PySem.F.plain_min_loop _]
  refine wpAny_bind (m := seqItems? (.ref _)) (wpAny_seqItems gS rfl ?_)
  refine wpAny_bind (m := tryCatch (pyNext (.ref s.heap.objs.size)) _) (wpAny_tryCatch (W.item 0 _ _ _ (by rw [hz]; omega) ⟨⟨_, gI, rfl, rfl⟩, ⟨ol, k0 _ _ hol, hlq⟩⟩ fun v h' tk' hP hst' hk' => ?_))
  obtain ⟨tn, htn⟩ := hi.get 0 n0 rfl
  have hv : v = .int n0 tn := by
    have : vs[0]? = some v := by simpa using hP
    rw [htn] at this
    exact (Option.some.inj this).symm
  subst hv
  have k' : ∀ x o, s.heap.get? x = some o → h'.get? x = some o := fun x o e => hk' x o (by
    have nI : x ≠ s.heap.objs.size := fun z => by rw [← z, e] at zI; cases zI
    simpa using nI) (k0 x o e)
  have gS' := hk' _ _ (by simpa using hSI) gS
  refine wpAny_bind (m := tryCatch (holding [Value.int n0 tn] (call (.builtin "abs") [Value.int n0 tn])) _) (wpAny_tryCatch (wpAny_holding (call_abs_int fun u tk2 => ?_)))
  refine wpAny_bind (m := updateSeq h1.objs.size (fun _ => #[Value.int n0 tn, Value.int (ab n0) u])) (wpAny_updateSeq gS' rfl ?_)
  rw [hnm]
  have sb := Heap.SameBut.update h' h1.objs.size (Obj.mapSeq fun _ => #[Value.int n0 tn, Value.int (ab n0) u])
  obtain ⟨c2, hc2⟩ : ∃ c2, (h'.update h1.objs.size (Obj.mapSeq fun _ => #[Value.int n0 tn, Value.int (ab n0) u])).get? h1.objs.size = some (seqObj "list" #[Value.int n0 tn, Value.int (ab n0) u] c2) := ⟨_, get?_update_seq gS' fun _ => #[Value.int n0 tn, Value.int (ab n0) u]⟩
  obtain ⟨oI, hoI, hoc, hod⟩ := id hst'.1
  refine wpAny_pure ⟨plainId_quiet PySem.F.plain_min_loop _, minAbs_loop hh hl hi hlI hSI zS zI (best := minA n0 nr) (fun t h2 tk3 kk => hQ t h2 tk3 kk) _ 0 _ _ n0 tn u c2 rfl (by simp) (fun x o e => ?_) hc2 ⟨oI, (sb.2 _ hSI.symm).trans hoI, hoc, hod⟩ rfl⟩
  have nS : x ≠ h1.objs.size := fun z => by rw [← z, e] at zS; cases zS
  exact (sb.2 x nS).trans (k' x o e)
end
/-- min(e, key=abs) -/
def tMinA (K : Fg) (t : TA) : TE := fun σ H Q => t σ H fun vs H1 => ∃ a n0 nr, vs = [.ref a] ∧ SqL K H1 a ((n0 :: nr).map V.int) ∧ Q (.int (minA n0 nr)) H1
theorem pe_minA {X : Cx} {e : Expr} {t : TA} {p p2 kp pos : Pos} (hc : X.calm = true) (hg : Gl X "min") (hm : X.mg "min" = none) (hga : Gl X "abs") (hma : X.mg "abs" = none) (ha : PA X [e] t)
    (he : backTo pos (starEach [e] X.env) = (false, eval e X.env) :: backTo pos (starEach [] X.env) := by rfl) (hpl : (backTo pos (starEach [e] X.env)).any (·.1) = false := by rfl) :
    PE X (.Call (.Name "min" p) [e] [⟨some "key", .Name "abs" p2, kp⟩] pos) (tMinA X.K t) := by
  refine ⟨fun pins s σ H Q I h => ?_⟩
  refine wpAny_Call_Name_kw (ld_blt I hg hm boot_min ?_ (by decide) (by decide))
  refine callWith_kw (thn (ha.run pos pins s σ H _ I h) fun us s1 ⟨vs, H1, I1, r1, a, n0, nr, e1, sq, q1⟩ => ?_) he hpl
  subst e1
  obtain rfl := Vals.ref1 r1
  show wpAny _ _ (evalAll [do let v ← eval (.Name "abs" p2) X.env; standAt pos; pure v]) _ _ s1
  refine wpAny_evalAll_cons (wpAny_bind (ld_blt I1 hga hma boot_abs (wpAny_bind (wpAny_standAt (wpAny_pure (wpAny_evalAll_nil ?_)))) (by decide) (by decide)))
  obtain ⟨its, rv, hl, hz⟩ := I1.list sq
  exact min_abs (I1.ok.hd hc) hl.isList rv.ints fun t h' tk' k => ⟨.int (minA n0 nr), H1, I1.kept k, ⟨t, rfl⟩, q1⟩
section
variable {K : Fg} {c : Ctx} {O : List Kd} {tl : TA} {bl : M (List BR)}
def intsD : List D → Option (List Int)
  | [] => some []
  | .int i :: r => (intsD r).map (i :: ·)
  | _ => none
theorem intsD_eq : ∀ {ds : List D} {ns : List Int}, intsD ds = some ns → ds = ns.map .int
  | [], ns, e => by cases e; rfl
  | d :: r, ns, e => by
    cases d with
    | int i =>
      unfold intsD at e
      cases z : intsD r with
      | none => rw [z] at e; cases e
      | some l => rw [z] at e; cases e; rw [List.map_cons, intsD_eq z]
    | _ => cases e
theorem intsD_of : ∀ ns : List Int, intsD (ns.map .int) = some ns
  | [] => rfl
  | n :: r => by rw [List.map_cons]; unfold intsD; rw [intsD_of r]; rfl
theorem dpa_ints {F : Hp} : ∀ {vs : List V} {ns : List Int}, DpAll K F vs (ns.map .int) → vs = ns.map .int
  | _, [], .nil => rfl
  | _, n :: r, .cons h t => by cases h; rw [List.map_cons, dpa_ints t]
def minAD : List D → Option D
  | [.list ds] => match intsD ds with
    | some (n :: r) => some (.int (minA n r))
    | _ => none
  | _ => none
theorem d_minA (h : DAB K c O tl bl) : DE K c O (tMinA K tl) (mB1 minAD bl) := ⟨fun {F H σ fps ds ds' d} rl e Q q => by
  obtain ⟨xs, s1, e1, g1⟩ := bnd_ok e
  split at g1
  · rename_i es he
    obtain ⟨g2, z⟩ := opt_ok g1
    subst z
    refine h.run rl e1 _ fun F1 H1 fps1 vs sF r1 bv => ?_
    have va := resA r1 bv he
    unfold minAD at g2
    split at g2
    · rename_i l
      split at g2
      · rename_i n r hn
        cases g2
        cases va with
        | cons h1 t1 =>
          cases t1
          obtain ⟨p, ys, rfl, s2, a2⟩ := h1.lst r1.sub
          rw [intsD_eq hn] at a2
          have := dpa_ints a2
          subst this
          exact ⟨p, n, r, rfl, s2, q F1 H1 fps1 _ sF r1 (.int _)⟩
      · cases g2
    · cases g2
  · cases g1⟩
end
section
variable {Q : D → Prop}
theorem so_minA_0 {n : Int} {r : List Int} : So0 (minAD [.list ((n :: r).map .int)]) Q = Q (.int (minA n r)) := by
  unfold minAD
  simp only [intsD_of]
  rfl
theorem so_minA {n : Int} {r : List Int} (q : Q (.int (minA n r))) : So (minAD [.list ((n :: r).map .int)]) Q := by with_unfolding_all exact so_minA_0.mpr q
theorem ab_eq (x : Int) : ab x = x.natAbs := by unfold ab; split <;> omega
theorem minA_mem : ∀ (r : List Int) (n : Int), minA n r ∈ n :: r
  | [], n => by simp [minA]
  | x :: r, n => by
    unfold minA
    split
    · exact List.mem_cons_of_mem _ (minA_mem r x)
    · have := minA_mem r n
      rcases List.mem_cons.mp this with h | h
      · rw [h]; exact List.mem_cons_self
      · exact List.mem_cons_of_mem _ (List.mem_cons_of_mem _ h)
theorem minA_le : ∀ (r : List Int) (n : Int), ∀ y ∈ n :: r, (minA n r).natAbs ≤ y.natAbs
  | [], n => by simp [minA]
  | x :: r, n => by
    intro y hy
    unfold minA
    rw [ab_eq, ab_eq]
    split
    · rename_i h
      have h1 := minA_le r x
      have h2 := h1 x (by simp)
      rcases List.mem_cons.mp hy with e | hy
      · subst e; omega
      · exact h1 y hy
    · rename_i h
      have h1 := minA_le r n
      have h2 := h1 n (by simp)
      rcases List.mem_cons.mp hy with e | hy
      · subst e; omega
      · rcases List.mem_cons.mp hy with e | hy
        · subst e; omega
        · exact h1 y (List.mem_cons_of_mem _ hy)
end
end Z
set_option Elab.async false
set_option linter.all false
set_option maxRecDepth 100000
namespace Z
open PySem L2
/-! ### a thing of one's own read as data for a while -/
mutual
def noL : D → Bool
  | .none => true
  | .bool _ => true
  | .int _ => true
  | .str _ => true
  | .tuple xs => noLs xs
  | _ => false
def noLs : List D → Bool
  | [] => true
  | x :: r => noL x && noLs r
end
def flatOwn : D → Bool
  | .list xs => noLs xs
  | _ => false
def frzF (F H : Hp) (fp : List Addr) : Hp := fun b => if b ∈ fp then H b else F b
def minF (F : Hp) (fp : List Addr) : Hp := fun b => if b ∈ fp then none else F b
section
variable {K : Fg} {F H : Hp} {fp : List Addr}
theorem minF_in {b : Addr} (h : b ∈ fp) : minF F fp b = none := if_pos h
theorem minF_out {b : Addr} (h : b ∉ fp) : minF F fp b = F b := if_neg h
theorem same_frz (h : ∀ q ∈ fp, F q = none) : Same F (frzF F H fp) := fun b u e => by
  unfold frzF
  by_cases z : b ∈ fp
  · rw [h b z] at e; cases e
  · rw [if_neg z]; exact e
theorem ow_frz {G : Hp} (hs : Same F G) (hG : ∀ q ∈ fp, G q = H q) : ∀ {k : Kd} {v : V} {d : D} {fp' : List Addr}, listy k = true → Ow K F H k v d fp' → (∀ q ∈ fp', q ∈ fp) → Dp K G v d := by
  intro k
  induction k with
  | sh => intro v d fp' _ h _; exact dp_mono hs h.2
  | ls k ih =>
    intro v d fp' hl h sub
    obtain ⟨p, xs, ds, fs, rfl, rfl, hp, rfl, al⟩ := h
    refine .lst (SqL.of (by rw [hG p (sub p List.mem_cons_self)]; exact hp)) ?_
    have al' : All3 (fun v d (f : List Addr) => Dp K G v d) xs ds fs := al.imp fun a b c hc o => ih hl o fun q hq => sub q (List.mem_cons_of_mem _ (List.mem_flatten.mpr ⟨c, hc, hq⟩))
    clear al hp sub
    induction al' with
    | nil => exact .nil
    | cons h _ ih2 => exact .cons h ih2
  | pm k ih => intro v d fp' hl h sub; exact ih hl h sub
  | dc _ => intro v d fp' hl; cases hl
  | oe _ => intro v d fp' hl; cases hl
  | of _ _ _ _ _ => intro v d fp' hl; cases hl
  | te => intro v d fp' hl; cases hl
  | tc _ _ _ _ => intro v d fp' hl; cases hl
  | op _ _ => intro v d fp' hl; cases hl
  | xr _ => intro v d fp' hl; cases hl
  | hx _ _ _ => intro v d fp' hl; cases hl
  | sd => intro v d fp' hl; cases hl
theorem ow_lists : ∀ {k : Kd} {v : V} {d : D} {fp' : List Addr}, listy k = true → Ow K F H k v d fp' → ∀ q ∈ fp', ∃ xs, H q = some (.lst xs) := by
  intro k
  induction k with
  | sh => intro v d fp' _ h q hq; rw [h.1] at hq; cases hq
  | ls k ih =>
    intro v d fp' hl h q hq
    obtain ⟨p, xs, ds, fs, rfl, rfl, hp, rfl, al⟩ := h
    rcases List.mem_cons.mp hq with rfl | hq
    · exact ⟨xs, hp⟩
    · obtain ⟨f, hf, hq⟩ := List.mem_flatten.mp hq
      have : ∀ {xs : List V} {ds : List D} {fs : List (List Addr)}, All3 (Ow2 K F H k).1 xs ds fs → f ∈ fs → ∃ ys, H q = some (.lst ys) := fun al => by
        induction al with
        | nil => intro h; cases h
        | cons o _ ih2 =>
          intro h
          rcases List.mem_cons.mp h with rfl | h
          · exact ih hl o q hq
          · exact ih2 h
      exact this al hf
  | pm k ih => intro v d fp' hl h; exact ih hl h
  | dc _ => intro v d fp' hl; cases hl
  | oe _ => intro v d fp' hl; cases hl
  | of _ _ _ _ _ => intro v d fp' hl; cases hl
  | te => intro v d fp' hl; cases hl
  | tc _ _ _ _ => intro v d fp' hl; cases hl
  | op _ _ => intro v d fp' hl; cases hl
  | xr _ => intro v d fp' hl; cases hl
  | hx _ _ _ => intro v d fp' hl; cases hl
  | sd => intro v d fp' hl; cases hl
mutual
theorem dp_min (hL : ∀ q ∈ fp, ∃ xs, F q = some (.lst xs)) : ∀ {v : V} {d : D}, Dp K F v d → noL d = true → Dp K (minF F fp) v d
  | _, _, .non, _ => .non
  | _, _, .bl b, _ => .bl b
  | _, _, .int i, _ => .int i
  | _, _, .str x, _ => .str x
  | _, _, .lst h r, n => by cases n
  | _, _, .tup (a := a) h r, n => by
    refine .tup ?_ (dpa_min hL r (by simpa [noL] using n))
    rcases h with (h | ⟨o, h⟩) | h
    · refine .inl (.inl ?_)
      rw [minF_out fun z => by obtain ⟨xs, e⟩ := hL a z; rw [e] at h; cases h]
      exact h
    · refine .inl (.inr ⟨o, ?_⟩)
      rw [minF_out fun z => by obtain ⟨xs, e⟩ := hL a z; rw [e] at h; cases h]
      exact h
    · exact .inr h
theorem dpa_min (hL : ∀ q ∈ fp, ∃ xs, F q = some (.lst xs)) : ∀ {vs : List V} {ds : List D}, DpAll K F vs ds → noLs ds = true → DpAll K (minF F fp) vs ds
  | _, _, .nil, _ => .nil
  | _, _, .cons h r, n => by
    rw [noLs, Bool.and_eq_true] at n
    exact .cons (dp_min hL h n.1) (dpa_min hL r n.2)
end
end
def mix (s s' : DS) : List Nat → DS
  | [] => s
  | j :: js => (mix s s' js).set j (s'[j]?.getD none)
theorem mix_len (s s' : DS) : ∀ js : List Nat, (mix s s' js).length = s.length
  | [] => rfl
  | j :: js => by unfold mix; rw [List.length_set]; exact mix_len s s' js
theorem mix_out (s s' : DS) : ∀ (js : List Nat) (i : Nat), i ∉ js → (mix s s' js)[i]? = s[i]?
  | [], i, _ => rfl
  | j :: js, i, h => by
    unfold mix
    rw [List.getElem?_set_ne fun z => h (by simp [z])]
    exact mix_out s s' js i fun z => h (by simp [z])
theorem mix_in (s s' : DS) : ∀ (js : List Nat) (i : Nat) (d : D), i ∈ js → (mix s s' js)[i]? = some (some d) → s'[i]? = some (some d)
  | [], i, d, h, _ => by cases h
  | j :: js, i, d, h, e => by
    unfold mix at e
    by_cases z : i = j
    · subst z
      by_cases hl : i < (mix s s' js).length
      · rw [List.getElem?_set_self hl] at e
        cases y : s'[i]? with
        | none => rw [y] at e; cases e
        | some o => rw [y] at e; simpa using e
      · rw [List.getElem?_eq_none (by rw [List.length_set]; omega)] at e; cases e
    · rw [List.getElem?_set_ne fun y => z y.symm] at e
      exact mix_in s s' js i d (by simpa [z] using h) e
def fzOk (js : List Nat) (s : DS) : Bool := js.all fun j => match s[j]? with
  | some (some d) => flatOwn d
  | _ => true
def mFz (i : Nat) (js : List Nat) (m : M D) : M D := fun s => match s[i]? with
  | some (some _) => match m s with
    | .ok d s' => if noL d && fzOk js s' then .ok d (mix s s' js) else .no
    | .no => .no
  | _ => .no
/-- all slots but i are read alone, or among js -/
def fzO (O : List Kd) (i : Nat) (js : List Nat) : Bool := (List.range O.length).all (fun j => j == i || (js.contains j && lsish (O.getD j .sh)) || (!js.contains j && O.getD j .sh == .sh)) && !js.contains i && js.all (· < O.length)
section
variable {K : Fg} {c : Ctx} {O : List Kd} {t : TE} {m : M D}
theorem d_fz (i : Nat) (js : List Nat) (h : ∀ c', DE K c' (O.set i .sh) t m) (hk : listy (O.getD i .sh) = true := by rfl) (hO : fzO O i js = true := by decide) (hi : i < O.length := by first | decide | exact of_decide_eq_true rfl) : DE K c O t (mFz i js m) := ⟨fun {F H σ fps ds ds' d} r e Q q => by
  unfold mFz at e
  unfold fzO at hO
  rw [Bool.and_eq_true, Bool.and_eq_true] at hO
  obtain ⟨⟨hO, hij⟩, hjl⟩ := hO
  have hij : i ∉ js := by simpa using hij
  have kO : ∀ j, j ≠ i → (j ∈ js ∧ lsish (O.getD j .sh) = true) ∨ (j ∉ js ∧ O.getD j .sh = .sh) := fun j hj => by
    by_cases hl : j < O.length
    · have := List.all_eq_true.mp hO j (by simpa using hl)
      simp only [Bool.or_eq_true, Bool.and_eq_true, beq_iff_eq, Bool.not_eq_true', List.contains_iff_mem, hj, false_or] at this
      rcases this with h | h
      · exact .inl h
      · refine .inr ⟨?_, h.2⟩
        have := h.1
        simpa using this
    · refine .inr ⟨fun z => hl ?_, ?_⟩
      · simpa using List.all_eq_true.mp hjl j z
      · rw [List.getD_eq_getElem?_getD, List.getElem?_eq_none (by omega)]; rfl
  split at e
  · rename_i di hdi
    cases em : m ds with
    | no => rw [em] at e; cases e
    | ok d1 s1 =>
      rw [em] at e
      dsimp only at e
      split at e
      · rename_i hn
        rw [Bool.and_eq_true] at hn
        cases e
        obtain ⟨hn, hz⟩ := hn
        obtain ⟨w, hw, owi⟩ := r.slots i di hdi
        have offi := fun q hq => r.off i q hq
        have hFi : ∀ q ∈ fps i, F q = none := fun q hq => (offi q hq).1
        have sF1 : Same F (frzF F H (fps i)) := same_frz hFi
        have e1 : ∀ q ∈ fps i, frzF F H (fps i) q = H q := fun q hq => if_pos hq
        have e2 : ∀ q, q ∉ fps i → frzF F H (fps i) q = F q := fun q hq => if_neg hq
        have hdis : ∀ j q, q ∈ asd fps i j → q ∉ fps i := fun j q hq hq' => by
          obtain ⟨z, hq⟩ := asd_sub hq
          exact r.dj j i z q hq hq'
        let c1 : Ctx := { (c.from O F H (asd fps i)) with F0 := frzF F H (fps i), pk := fun j => if j = i then none else c.pk j }
        have c1n : ∀ b, c1.H0 b = none → c.H0 b = none := fun b hb => by
          rcases from_none (c := c) (O := O) (F1 := F) (H1 := H) (fps1 := asd fps i) hb with ⟨j, hj, hp⟩ | hb
          · rcases (r.off j b (asd_sub hj).2).2.2 with h | ⟨_, h⟩
            · exact h
            · rw [hp] at h; cases h
          · exact r.live b hb
        have r1 : Rel K c1 (O.set i .sh) (frzF F H (fps i)) H σ (asd fps i) ds := by
          have ra : Rel K c O F H σ (asd fps i) (ds.set i none) := r.aside i
          have rf := ra.focus
          refine ⟨fun b u e => ?_, Same.refl _, rf.keep, rf.live, fun b u e => .inl e, fun j d0 hj => ?_, fun j q hq => ?_, rf.nd, rf.dj, fun j k hj => ?_, r.len⟩
          · by_cases z : b ∈ fps i
            · rw [e1 b z] at e; exact e
            · rw [e2 b z] at e; exact r.sub b u e
          · by_cases z : j = i
            · subst z
              rw [hdi] at hj
              cases hj
              refine ⟨w, hw, ?_⟩
              rw [getD_set_eq hi]
              exact ⟨if_pos rfl, ow_frz sF1 e1 hk owi fun q hq => hq⟩
            · obtain ⟨u, hu, ow⟩ := r.slots j d0 hj
              refine ⟨u, hu, ?_⟩
              rw [getD_set_ne z]
              have : asd fps i j = fps j := if_neg z
              rw [this]
              exact ow_mono sF1 ow fun _ _ => rfl
          · obtain ⟨a, b, cc⟩ := rf.off j q hq
            refine ⟨by rw [e2 q (hdis j q hq)]; exact a, b, ?_⟩
            have z := (asd_sub hq).1
            rw [List.getElem?_set_ne (Ne.symm z)]
            exact cc
          · have hj : (if j = i then none else c.pk j) = some k := hj
            by_cases z : j = i
            · rw [if_pos z] at hj; cases hj
            · rw [if_neg z] at hj
              obtain ⟨a, b⟩ := r.par j k hj
              exact ⟨by rw [List.getElem?_set_ne (Ne.symm z)]; exact a, b⟩
        refine (h c1).run r1 em _ fun F2 H2 fps2 v sF2 r2 dp => ?_
        have hn1 : ∀ q ∈ fps i, ∀ j, q ∉ asd fps i j := fun q hq j hj => hdis j q hj hq
        have H0i : ∀ q ∈ fps i, c1.H0 q = H q := fun q hq => from_some (c := c) (F1 := F) fun ⟨j, hj, _⟩ => hn1 q hq j hj
        have owi1 : ∀ q ∈ fps i, ¬ c1.own q := fun q hq ⟨j, hj, _⟩ => hn1 q hq j hj
        have kp : ∀ q ∈ fps i, H2 q = H q := fun q hq => by
          cases z : H q with
          | none => exact absurd z (offi q hq).2.1
          | some o => exact r2.keep q o (by rw [H0i q hq]; exact z) (owi1 q hq)
        have F2i : ∀ q ∈ fps i, F2 q = H q := fun q hq => by
          cases z : H q with
          | none => exact absurd z (offi q hq).2.1
          | some o => exact sF2 q o (by rw [e1 q hq]; exact z)
        have lsi : ∀ q ∈ fps i, ∃ xs, F2 q = some (.lst xs) := fun q hq => by
          obtain ⟨xs, hx⟩ := ow_lists hk owi q hq
          exact ⟨xs, by rw [F2i q hq]; exact hx⟩
        have o2i : ∀ j q, q ∈ fps2 j → q ∉ fps i := fun j q hq hq' => by
          rcases (r2.off j q hq).2.2 with h | ⟨h, _⟩
          · rw [H0i q hq'] at h; exact (offi q hq').2.1 h
          · exact owi1 q hq' ⟨_, h⟩
        have sF3 : Same F (minF F2 (fps i)) := fun b u e => by
          have hb : b ∉ fps i := fun z => by rw [hFi b z] at e; cases e
          rw [minF_out hb]
          exact sF2 b u (by rw [e2 b hb]; exact e)
        have fin : Rel K c O (minF F2 (fps i)) H2 σ (fun j => if j = i then fps i else if j ∈ js then fps2 j else []) (mix ds s1 js) := by
          have cs : ∀ j q, q ∈ (if j = i then fps i else if j ∈ js then fps2 j else []) → (j = i ∧ q ∈ fps i) ∨ (j ≠ i ∧ j ∈ js ∧ q ∈ fps2 j) := fun j q hq => by
            by_cases z : j = i
            · rw [if_pos z] at hq; exact .inl ⟨z, hq⟩
            · rw [if_neg z] at hq
              by_cases y : j ∈ js
              · rw [if_pos y] at hq; exact .inr ⟨z, y, hq⟩
              · rw [if_neg y] at hq; cases hq
          refine ⟨fun b u e => ?_, r.base.trans sF3, fun b u e n => ?_, fun b e => c1n b (r2.live b e), fun b u e => ?_, fun j d0 hj => ?_, fun j q hq => ?_, fun j => ?_, fun j l hjl q hq hq' => ?_, r.par, by rw [mix_len]; exact r.len⟩
          · by_cases z : b ∈ fps i
            · rw [minF_in z] at e; cases e
            · rw [minF_out z] at e; exact r2.sub b u e
          · have hH := r.keep b u e n
            have hb : ∀ j, b ∉ asd fps i j := fun j hj => by
              rcases (r.off j b (asd_sub hj).2).2.2 with h | ⟨h, _⟩
              · rw [h] at e; cases e
              · exact n ⟨_, h⟩
            exact r2.keep b u (by rw [show c1.H0 b = H b from from_some (c := c) (F1 := F) fun ⟨j, hj, _⟩ => hb j hj]; exact hH) fun ⟨j, hj, _⟩ => hb j hj
          · by_cases z : b ∈ fps i
            · rw [minF_in z] at e; cases e
            · rw [minF_out z] at e
              rcases r2.new b u e with h | h
              · have h : frzF F H (fps i) b = some u := h
                rw [e2 b z] at h; exact r.new b u h
              · exact .inr (c1n b h)
          · by_cases z : j = i
            · subst z
              rw [mix_out _ _ _ _ hij, hdi] at hj
              cases hj
              refine ⟨w, hw, ?_⟩
              rw [if_pos rfl]
              exact ow_mono sF3 owi kp
            · rcases kO j z with ⟨y, hl⟩ | ⟨y, hs⟩
              · have hj' := mix_in _ _ _ _ _ y hj
                obtain ⟨u, hu, ow⟩ := r2.slots j d0 hj'
                refine ⟨u, hu, ?_⟩
                rw [getD_set_ne z] at ow
                rw [if_neg z, if_pos y]
                obtain ⟨p, xs, es, rfl, rfl, hp, hf, al⟩ := ow_ls hl ow
                have fo : noLs es = true := by
                  have := List.all_eq_true.mp hz j y
                  simp only [hj'] at this
                  exact this
                have ow' : Ow K (minF F2 (fps i)) H2 (.ls .sh) (.ref p) (.list es) [p] := ls_ow hp (dpa_min lsi al fo)
                rw [hf]
                unfold lsish at hl
                split at hl
                · rename_i eq; rw [eq]; exact ow'
                · rename_i eq; rw [eq]; exact ow'
                · cases hl
              · rw [mix_out _ _ _ _ y] at hj
                obtain ⟨u, hu, ow⟩ := r.slots j d0 hj
                refine ⟨u, hu, ?_⟩
                rw [hs] at ow ⊢
                rw [if_neg z, if_neg y]
                exact ⟨rfl, dp_mono sF3 ow.2⟩
          · rcases cs j q hq with ⟨z, hq⟩ | ⟨z, y, hq⟩
            · subst z
              exact ⟨minF_in hq, by rw [kp q hq]; exact (offi q hq).2.1, (offi q hq).2.2⟩
            · obtain ⟨a, b, cc⟩ := r2.off j q hq
              refine ⟨by rw [minF_out (o2i j q hq)]; exact a, b, ?_⟩
              rcases cc with h | ⟨⟨hl, hp⟩, hp'⟩
              · exact .inl (c1n q h)
              · exact (r.off j q (asd_sub hl).2).2.2
          · by_cases z : j = i
            · simp only [if_pos z]; exact r.nd i
            · simp only [if_neg z]
              by_cases y : j ∈ js
              · rw [if_pos y]; exact r2.nd j
              · rw [if_neg y]; simp
          · rcases cs j q hq with ⟨z, h1⟩ | ⟨z, y, h1⟩
            · rcases cs l q hq' with ⟨z', h2⟩ | ⟨z', y', h2⟩
              · exact hjl (z.trans z'.symm)
              · exact o2i l q h2 h1
            · rcases cs l q hq' with ⟨z', h2⟩ | ⟨z', y', h2⟩
              · exact o2i j q h1 h2
              · exact r2.dj j l hjl q h1 h2
        exact q _ H2 _ v sF3 fin (dp_min lsi dp hn)
      · cases e
  · cases e⟩
end
end Z
set_option Elab.async false
set_option linter.all false
set_option maxRecDepth 100000
namespace Z
open PySem L2
section
variable {K : Fg} {c : Ctx} {Ob O O' : List Kd} {F H : Hp} {σ : St} {fps : Nat → List Addr} {ds : DS} {t : TS} {b : MS} {te ta tb ti tp : TE} {m me : M D} {tl : TA} {bl : M (List BR)} {b1 : M BR}
/-! ### part of a thing of one's own is read alone from now on -/
theorem Rel.frzG (r : Rel K c O F H σ fps ds) (i : Nat) {k2 : Kd} {fp2 fz : List Addr} {d : D} {v : V} (hi : i < O.length) (hp : isPm O[i]? = false) (hd : ds[i]? = some (some d)) (hv : σ[i]? = some (some v)) (hz : ∀ q ∈ fz, q ∈ fps i) (h2 : ∀ q ∈ fp2, q ∈ fps i ∧ q ∉ fz) (nd : fp2.Nodup)
    (ow : Ow K (frzF F H fz) H k2 v d fp2) : Same F (frzF F H fz) ∧ Rel K c (O.set i k2) (frzF F H fz) H σ (fun j => if j = i then fp2 else fps j) ds := by
  have hF : ∀ q ∈ fz, F q = none := fun q hq => (r.off i q (hz q hq)).1
  have sF : Same F (frzF F H fz) := same_frz hF
  have h0 : ∀ q ∈ fps i, c.H0 q = none := fun q hq => by
    rcases (r.off i q hq).2.2 with h | ⟨_, h⟩
    · exact h
    · rw [hp] at h; cases h
  have e1 : ∀ q, q ∉ fz → frzF F H fz q = F q := fun q hq => if_neg hq
  have dis : ∀ j q, j ≠ i → q ∈ fps j → q ∉ fz := fun j q hj hq z => r.dj j i hj q hq (hz q z)
  refine ⟨sF, fun b u e => ?_, r.base.trans sF, r.keep, r.live, fun b u e => ?_, fun j d' hj => ?_, fun j q hq => ?_, fun j => ?_, fun j l hjl q hq hq' => ?_, fun j k h => ?_, r.len⟩
  · by_cases z : b ∈ fz
    · have : frzF F H fz b = H b := if_pos z
      rw [this] at e; exact e
    · rw [e1 b z] at e; exact r.sub b u e
  · by_cases z : b ∈ fz
    · exact .inr (h0 b (hz b z))
    · rw [e1 b z] at e; exact r.new b u e
  · by_cases z : j = i
    · subst z
      rw [hd] at hj
      cases hj
      refine ⟨v, hv, ?_⟩
      rw [getD_set_eq hi, if_pos rfl]
      exact ow
    · obtain ⟨u, hu, w⟩ := r.slots j d' hj
      refine ⟨u, hu, ?_⟩
      rw [getD_set_ne z, if_neg z]
      exact ow_mono sF w fun _ _ => rfl
  · by_cases z : j = i
    · subst z
      rw [if_pos rfl] at hq
      obtain ⟨a1, a2⟩ := h2 q hq
      exact ⟨by rw [e1 q a2]; exact (r.off j q a1).1, (r.off j q a1).2.1, .inl (h0 q a1)⟩
    · rw [if_neg z] at hq
      rw [List.getElem?_set_ne (Ne.symm z), e1 q (dis j q z hq)]
      exact r.off j q hq
  · by_cases z : j = i
    · simp only [if_pos z]; exact nd
    · simp only [if_neg z]; exact r.nd j
  · by_cases z : j = i
    · by_cases z' : l = i
      · exact hjl (z.trans z'.symm)
      · simp only [if_pos z] at hq
        simp only [if_neg z'] at hq'
        exact r.dj i l (fun y => z' y.symm) q (h2 q hq).1 hq'
    · simp only [if_neg z] at hq
      by_cases z' : l = i
      · simp only [if_pos z'] at hq'
        exact r.dj j i z q hq (h2 q hq').1
      · simp only [if_neg z'] at hq'
        exact r.dj j l hjl q hq hq'
  · obtain ⟨x, y⟩ := r.par j k h
    have hj : j ≠ i := fun z => by
      subst z
      rw [x] at hp
      cases hp
    exact ⟨by rw [List.getElem?_set_ne (Ne.symm hj)]; exact x, y⟩
/-- the rows are read alone from now on -/
theorem c_frzR (i : Nat) {k : Kd} (hk : O[i]? = some (.ls k)) (hl : listy k = true) (h : DC K c Ob (O.set i (.ls .sh)) t b O') : DC K c Ob O t (sFrz i b) O' := ⟨fun {F H σ fps ds} r E p => by
  unfold sFrz at p
  split at p
  · rename_i d hd
    obtain ⟨v, hv, ow⟩ := r.slots i d hd
    have hk' : O.getD i .sh = .ls k := by rw [List.getD_eq_getElem?_getD, hk]; rfl
    rw [hk'] at ow
    obtain ⟨a, xs, es, fs, rfl, rfl, ha, hfp, al⟩ := ow
    have hF : ∀ q ∈ fs.flatten, F q = none := fun q hq => (r.off i q (by rw [hfp]; exact List.mem_cons_of_mem _ hq)).1
    have sF := same_frz (H := H) hF
    have nd := r.nd i
    rw [hfp, List.nodup_cons] at nd
    have al' : All3 (Ow2 K (frzF F H fs.flatten) H .sh).1 xs es (fs.map fun _ => []) := by
      have al2 : All3 (fun v d (_ : List Addr) => Dp K (frzF F H fs.flatten) v d) xs es fs := al.imp fun a b c hc o => ow_frz sF (fp := fs.flatten) (fun q hq => if_pos hq) hl o fun q hq => List.mem_flatten.mpr ⟨c, hc, hq⟩
      clear al sF hF nd hfp hd ha
      generalize frzF F H fs.flatten = G at al2 ⊢
      induction al2 with
      | nil => exact .nil
      | cons h _ ih => exact .cons ⟨rfl, h⟩ ih
    have efl : (fs.map fun _ => ([] : List Addr)).flatten = [] := by simp
    obtain ⟨s2, r2⟩ := r.frzG i (k2 := .ls .sh) (fp2 := [a]) (fz := fs.flatten) (List.getElem?_eq_some_iff.mp hk).1 (by rw [hk]; rfl) hd hv (fun q hq => by rw [hfp]; exact List.mem_cons_of_mem _ hq)
      (fun q hq => by
        have : q = a := by simpa using hq
        subst this
        exact ⟨by rw [hfp]; simp, nd.1⟩) (by simp) ⟨a, xs, es, _, rfl, rfl, ha, by rw [efl], al'⟩
    exact h.run r2 E (p.mono s2)
  · exact p.elim⟩
/-- the whole is read alone from now on -/
theorem c_frzA (i : Nat) {k : Kd} (hk : O[i]? = some k) (hl : listy k = true) (hp : isPm O[i]? = false) (h : DC K c Ob (O.set i .sh) t b O') : DC K c Ob O t (sFrz i b) O' := ⟨fun {F H σ fps ds} r E p => by
  unfold sFrz at p
  split at p
  · rename_i d hd
    obtain ⟨v, hv, ow⟩ := r.slots i d hd
    have hk' : O.getD i .sh = k := by rw [List.getD_eq_getElem?_getD, hk]; rfl
    rw [hk'] at ow
    have hF : ∀ q ∈ fps i, F q = none := fun q hq => (r.off i q hq).1
    obtain ⟨s2, r2⟩ := r.frzG i (k2 := .sh) (fp2 := []) (fz := fps i) (List.getElem?_eq_some_iff.mp hk).1 hp hd hv (fun q hq => hq) (fun q hq => by cases hq) (by simp) ⟨rfl, ow_frz (same_frz hF) (fp := fps i) (fun q hq => if_pos hq) hl ow fun q hq => hq⟩
    exact h.run r2 E (p.mono s2)
  · exact p.elim⟩
/-- what was made for one's own is read alone -/
theorem DO.eA {k : Kd} (h : DO K c O k te m) (hl : listy k = true := by rfl) : DE K c O te m := ⟨fun {F H σ fps ds ds' d} r e Q q => by
  refine h.run r e _ fun F1 H1 fps1 v fpv sF r1 ow hf nd => ?_
  have hF : ∀ q ∈ fpv, F1 q = none := fun q hq => (hf q hq).1
  have s2 := same_frz (H := H1) hF
  have e1 : ∀ q, q ∉ fpv → frzF F1 H1 fpv q = F1 q := fun q hq => if_neg hq
  refine q (frzF F1 H1 fpv) H1 fps1 v (sF.trans s2) ⟨fun b u e => ?_, r1.base.trans s2, r1.keep, r1.live, fun b u e => ?_, fun i d hd => ?_, fun i q hq => ?_, r1.nd, r1.dj, r1.par, r1.len⟩ (ow_frz s2 (fp := fpv) (fun q hq => if_pos hq) hl ow fun q hq => hq)
  · by_cases z : b ∈ fpv
    · have : frzF F1 H1 fpv b = H1 b := if_pos z
      rw [this] at e; exact e
    · rw [e1 b z] at e; exact r1.sub b u e
  · by_cases z : b ∈ fpv
    · exact .inr (hf b z).2.2.1
    · rw [e1 b z] at e; exact r1.new b u e
  · obtain ⟨u, hu, w⟩ := r1.slots i d hd
    exact ⟨u, hu, ow_mono s2 w fun _ _ => rfl⟩
  · rw [e1 q fun z => (hf q z).2.2.2 i hq]
    exact r1.off i q hq⟩
/-! ### list(x), [x] * n as lists of one's own -/
def listOfD : List D → Option D
  | [.list xs] => some (.list xs)
  | [.tuple xs] => some (.list xs)
  | _ => none
theorem o_listOf (h : DAB K c O tl bl) : DO K c O (.ls .sh) (tCB (rListOf K) tl) (mB1 listOfD bl) := ⟨fun {F H σ fps ds ds' d} rl e Q q => by
  obtain ⟨xs, s1, e1, g1⟩ := bnd_ok e
  split at g1
  · rename_i es he
    obtain ⟨g2, z⟩ := opt_ok g1
    subst z
    refine h.run rl e1 _ fun F1 H1 fps1 vs sF r1 bv => ?_
    have va := resA r1 bv he
    have fin : ∀ {ys : List V} {es : List D}, DpAll K F1 ys es → ∀ l, H1 l = none → d = .list es → Q (.ref l) (upd H1 l (.lst ys)) := fun {ys es} al l hl z => by
      subst z
      obtain ⟨hF, h0, hq⟩ := r1.fresh hl
      refine q F1 _ fps1 (.ref l) [l] sF (r1.allocO hl _) (ls_ow upd_same al) (fun q' hq' => ?_) (by simp)
      have : q' = l := by simpa using hq'
      subst this
      exact ⟨hF, by rw [upd_same]; simp, h0, hq⟩
    unfold listOfD at g2
    split at g2
    · cases g2
      cases va with
      | cons h1 t1 =>
        cases t1
        obtain ⟨p, ys, rfl, s2, a2⟩ := h1.lst r1.sub
        exact ⟨p, ys, rfl, .inl s2, fun l hl => fin a2 l hl rfl⟩
    · cases g2
      cases va with
      | cons h1 t1 =>
        cases t1
        obtain ⟨p, ys, rfl, s2, a2⟩ := h1.tup r1.sub
        exact ⟨p, ys, rfl, .inr s2, fun l hl => fin a2 l hl rfl⟩
    · cases g2
  · cases g1⟩
def repC (n : Nat) (k : Int) : Bool := decide (-(2 ^ 63) ≤ k ∧ k < 2 ^ 63 ∧ n * k.toNat ≤ sizeLine)
def mRep (a b : M D) : M D := bnd a fun x => bnd b fun y => opt (match x, y with
  | .list xs, .int k => if repC xs.length k then some (.list (List.replicate k.toNat xs).flatten) else none
  | _, _ => none)
theorem dpa_rep {F : Hp} {vs : List V} {ds : List D} (h : DpAll K F vs ds) : ∀ n, DpAll K F (List.replicate n vs).flatten (List.replicate n ds).flatten
  | 0 => .nil
  | n + 1 => by
    rw [List.replicate_succ, List.replicate_succ, List.flatten_cons, List.flatten_cons]
    exact dpa_append h (dpa_rep h n)
theorem o_rep {ma mb : M D} (ha : DO K c O (.ls .sh) ta ma) (hb : ∀ c', DE K c' O tb mb) : DO K c O (.ls .sh) (tOp rRep ta tb) (mRep ma mb) := ⟨fun {F H σ fps ds ds' d} rl e Q q => by
  obtain ⟨x, s1, e1, g1⟩ := bnd_ok e
  obtain ⟨y, s2, e2, g2⟩ := bnd_ok g1
  obtain ⟨g3, z⟩ := opt_ok g2
  subst z
  refine ha.run rl e1 _ fun F1 H1 fps1 v fpv sF r1 ow hf nd => ?_
  obtain ⟨p, xs, es, rfl, rfl, hp, rfl, al⟩ := ls_sh ow
  refine (hb _).run r1.focus e2 _ fun F2 H2 fps2 u sF2 r2' du => ?_
  have r2 := r1.unfocus' r2'
  obtain ⟨o1, o2, o3⟩ := r2'.out (hf p (by simp)).1 (hf p (by simp)).2.1 (hf p (by simp)).2.2.2
  cases y with
  | int k =>
    dsimp only at g3
    split at g3
    · rename_i hc
      cases g3
      cases du
      have hc : -(2 ^ 63) ≤ k ∧ k < 2 ^ 63 ∧ es.length * k.toNat ≤ sizeLine := of_decide_eq_true hc
      refine ⟨p, k, xs, rfl, rfl, by rw [o1]; exact hp, hc.1, hc.2.1, by rw [dpa_len al]; exact hc.2.2, fun l hl => ?_⟩
      obtain ⟨hF, h0, hq⟩ := r2.fresh hl
      refine q F2 _ fps2 (.ref l) [l] (sF.trans sF2) (r2.allocO hl _) (ls_ow upd_same (dpa_rep (dpa_mono sF2 al) _)) (fun q' hq' => ?_) (by simp)
      have : q' = l := by simpa using hq'
      subst this
      exact ⟨hF, by rw [upd_same]; simp, h0, hq⟩
    · cases g3
  | _ => cases g3⟩
/-! ### things of one's own put into places -/
/-- x.. [e] = v, v of one's own -/
theorem c_putPO {k1 : Kd} {mp : D → M (List Sel)} (i : Nat) (hm : DO K c O k1 te m) (hp : ∀ c', DPl K c' O i (unpm (O.getD i .sh)) tp mp (.ls k1)) (he : ∀ c', DE K c' O ti me) : DC K c Ob O (tAsg te (gSub tp ti rSetL)) (sPutP i mp me m) O := ⟨fun {F H σ fps ds} r E p => by
  unfold sPutP at p
  cases e : m ds with
  | no => rw [e] at p; exact p.elim
  | ok x s1 =>
    rw [e] at p
    dsimp only at p
    refine hm.run r e _ fun F1 H1 fps1 vx fpx sF r1 owx hfx ndx => ?_
    split at p
    · rename_i d hd
      obtain ⟨w, hw, rf, pt⟩ := r1.pt i hd
      have pw := fun q (hq : q ∈ fps1 i) => (r1.off i q hq).2.2
      -- the new thing is kept, too
      have ptx : Pt K (c.from O F1 H1 (asd fps1 i)) F1 H1 k1 vx x fpx := ⟨owx, ndx, fun q hq => by
        obtain ⟨h1, h2, h3, h4⟩ := hfx q hq
        exact ⟨h1, h2, h1, from_some fun ⟨j, hj, _⟩ => h4 j (asd_sub hj).2, fun ⟨j, hj, _⟩ => h4 j (asd_sub hj).2⟩⟩
      cases e1 : mp d (s1.set i none) with
      | no => rw [e1] at p; exact p.elim
      | ok π s2 =>
        rw [e1] at p
        dsimp only at p
        cases e2 : me s2 with
        | no => rw [e2] at p; exact p.elim
        | ok z s3 =>
          rw [e2] at p
          dsimp only at p
          split at p
          · rename_i j xs hx
            split at p
            · rename_i n hn
              split at p
              · rename_i d' hs
                refine (hp _).run rf e1 hw pt (by rw [hx]; rfl) _ fun F2 H2 fps2 v sF2 r2 vp => ?_
                obtain ⟨p2, a2, _⟩ := pt.stay r2 sF2
                obtain ⟨px2, ax2, _⟩ := ptx.stay r2 sF2
                refine (he _).run r2 e2 _ fun F3 H3 fps3 zz sF3 r3 dz => ?_
                obtain ⟨p3, a3, _⟩ := p2.stay r3 sF3
                obtain ⟨px3, ax3, ox3⟩ := px2.stay r3 sF3
                cases dz
                obtain ⟨v3, fp3, vp3, _, ow3, sub3, nd3, wand⟩ := ow_path p3.ow ((hp c).kd e1) hx p3.nd
                obtain ⟨v2, _, vq, vq2, _, _, _, _⟩ := ow_path p2.ow ((hp c).kd e1) hx p2.nd
                have ev : v = v3 := by rw [VP.fun vp vq]; exact VP.fun (vq2 H3 a3) vp3
                subst ev
                obtain ⟨a, ys, es, fs, rfl, e3, ha, rfl, al⟩ := ow3
                cases e3
                refine ⟨a, ys, j, n, rfl, rfl, ha, by rw [al.len.1]; exact hn, ?_⟩
                have hlt := ixN_lt hn
                obtain ⟨dn, hdn⟩ : ∃ dn, xs[n]? = some dn := ⟨_, List.getElem?_eq_getElem hlt⟩
                obtain ⟨xa, u, xb, da, db, fa, fn, fb, rfl, rfl, rfl, l1, l2, h1, h2, h3⟩ := al.split hdn
                have hset : (xa ++ u :: xb).set n vx = xa ++ vx :: xb := by rw [List.set_append_right _ _ (by omega), l1]; simp
                have hsetd : (da ++ dn :: db).set n x = da ++ x :: db := by rw [List.set_append_right _ _ (by omega), l2]; simp
                rw [hset]
                rw [hsetd] at hs
                -- the new thing stands apart
                have hax : ∀ q ∈ fpx, q ∉ fps1 i := fun q hq => (hfx q hq).2.2.2 i
                have nd3' := nd3
                rw [List.flatten_append, List.flatten_cons, List.nodup_cons, List.nodup_append, List.nodup_append] at nd3'
                obtain ⟨na, nda, ⟨ndn, ndb, dnb⟩, dab⟩ := nd3'
                have ina : a ∈ fps1 i := sub3 a (by simp)
                have inA : ∀ q ∈ fa.flatten, q ∈ fps1 i := fun q hq => sub3 q (by rw [List.flatten_append]; exact List.mem_cons_of_mem _ (List.mem_append.mpr (.inl hq)))
                have inB : ∀ q ∈ fb.flatten, q ∈ fps1 i := fun q hq => sub3 q (by rw [List.flatten_append, List.flatten_cons]; exact List.mem_cons_of_mem _ (List.mem_append.mpr (.inr (List.mem_append.mpr (.inr hq)))))
                have upA : ∀ q ∈ fa.flatten, upd H3 a (.lst (xa ++ vx :: xb)) q = H3 q := fun q hq => upd_ne fun y => na (by rw [← y]; exact List.mem_append.mpr (.inl hq))
                have upB : ∀ q ∈ fb.flatten, upd H3 a (.lst (xa ++ vx :: xb)) q = H3 q := fun q hq => upd_ne fun y => na (by rw [← y]; exact List.mem_append.mpr (.inr (List.mem_append.mpr (.inr hq))))
                have upX : ∀ q ∈ fpx, upd H3 a (.lst (xa ++ vx :: xb)) q = H3 q := fun q hq => upd_ne fun y => hax q hq (by rw [y]; exact ina)
                obtain ⟨fp4, d4, es4, ow4, nd4, sub4⟩ := wand F3 (upd H3 a (.lst (xa ++ vx :: xb))) (.list (da ++ x :: db)) (a :: (fa ++ fpx :: fb).flatten) (Same.refl _) (fun q hq hn' => upd_ne fun y => hn' (by simp [y]))
                  ⟨a, _, _, _, rfl, rfl, upd_same, rfl, (h1.imp fun _ _ cc hc o => ow_mono (Same.refl _) o fun q hq => upA q (List.mem_flatten.mpr ⟨cc, hc, hq⟩)).append (.cons (ow_mono (Same.refl _) px3.ow upX) (h3.imp fun _ _ cc hc o => ow_mono (Same.refl _) o fun q hq => upB q (List.mem_flatten.mpr ⟨cc, hc, hq⟩)))⟩
                  (fun q hq hq' => by
                    rw [List.flatten_append, List.flatten_cons] at hq ⊢
                    rcases List.mem_cons.mp hq with y | hq
                    · rw [y]; exact List.mem_cons_self
                    · refine List.mem_cons_of_mem _ ?_
                      rcases List.mem_append.mp hq with hq | hq
                      · exact List.mem_append.mpr (.inl hq)
                      · rcases List.mem_append.mp hq with hq | hq
                        · exact absurd hq' (hax q hq)
                        · exact List.mem_append.mpr (.inr (List.mem_append.mpr (.inr hq))))
                  (by
                    rw [List.flatten_append, List.flatten_cons, List.nodup_cons, List.nodup_append, List.nodup_append]
                    refine ⟨fun y => ?_, nda, ⟨ndx, ndb, fun q hq q' hq' eq => hax q hq (by rw [eq]; exact inB q' hq')⟩, fun q hq q' hq' eq => ?_⟩
                    · rcases List.mem_append.mp y with y | y
                      · exact na (List.mem_append.mpr (.inl y))
                      · rcases List.mem_append.mp y with y | y
                        · exact hax a y ina
                        · exact na (List.mem_append.mpr (.inr (List.mem_append.mpr (.inr y))))
                    · subst eq
                      rcases List.mem_append.mp hq' with y | y
                      · exact hax q y (inA q hq)
                      · exact dab q hq q (List.mem_append.mpr (.inr y)) rfl)
                rw [hs] at es4
                cases es4
                refine p F3 _ σ _ ((sF.trans sF2).trans sF3) (r1.putback hw r3 ina ow4 nd4 fun q hq => ?_)
                rcases sub4 q hq with h | h
                · rw [List.flatten_append, List.flatten_cons] at h
                  rcases List.mem_cons.mp h with y | h
                  · rw [y]; exact .inl ina
                  · rcases List.mem_append.mp h with h | h
                    · exact .inl (inA q h)
                    · rcases List.mem_append.mp h with h | h
                      · exact .inr ⟨(px3.pr q h).1, (px3.pr q h).2.1, (hfx q h).2.2.1, ox3 q h⟩
                      · exact .inl (inB q h)
                · exact .inl h.1
              · exact p.elim
            · exact p.elim
          · exact p.elim
    · exact p.elim⟩
end
end Z
set_option Elab.async false
set_option linter.all false
set_option maxRecDepth 100000
namespace Z
open PySem L2
section
variable {K : Fg} {c : Ctx} {Ob O O' : List Kd} {te tp : TE} {m : M D}
/-- x..append(v), v of one's own -/
theorem c_appPO {k1 : Kd} {mp : D → M (List Sel)} (i : Nat) (hp : ∀ c', DPl K c' O i (unpm (O.getD i .sh)) tp mp (.ls k1)) (hm : ∀ c', DO K c' O k1 te m) : DC K c Ob O (tDrop (tBM K "list" rAppend tp (tCons te tNil))) (sAppP i mp m) O := ⟨fun {F H σ fps ds} r E p => by
  unfold sAppP at p
  split at p
  · rename_i d hd
    obtain ⟨w, hw, rf, pt⟩ := r.pt i hd
    cases e1 : mp d (ds.set i none) with
    | no => rw [e1] at p; exact p.elim
    | ok π s2 =>
      rw [e1] at p
      dsimp only at p
      cases e2 : m s2 with
      | no => rw [e2] at p; exact p.elim
      | ok x s3 =>
        rw [e2] at p
        dsimp only at p
        split at p
        · rename_i xs hx
          split at p
          · rename_i hz
            split at p
            · rename_i d' hs
              refine (hp _).run rf e1 hw pt (by rw [hx]; rfl) _ fun F2 H2 fps2 v sF2 r2 vp => ?_
              obtain ⟨p2, a2, _⟩ := pt.stay r2 sF2
              obtain ⟨v2, fp2, vq, vq2, ow2, _, _, _⟩ := ow_path p2.ow ((hp c).kd e1) hx p2.nd
              have ev2 : v = v2 := VP.fun vp vq
              subst ev2
              obtain ⟨a0, ys0, es0, fs0, rfl, _, ha0, _, _⟩ := ow2
              refine ⟨.inl ⟨rfl, ys0, SqL.of ha0⟩, ?_⟩
              refine (hm _).run r2 e2 _ fun F3 H3 fps3 vx fpx sF3 r3 owx hfx ndx => ?_
              obtain ⟨p3, a3, o3⟩ := p2.stay r3 sF3
              obtain ⟨v3, fp3, vp3, _, ow3, sub3, nd3, wand⟩ := ow_path p3.ow ((hp c).kd e1) hx p3.nd
              have ev : V.ref a0 = v3 := VP.fun (vq2 H3 a3) vp3
              subst ev
              obtain ⟨a, ys, es, fs, e4, e3, ha, rfl, al⟩ := ow3
              cases e3
              cases e4
              refine ⟨a0, ys, vx, rfl, rfl, ha, by rw [al.len.1]; exact of_decide_eq_true hz, ?_⟩
              rw [List.nodup_cons] at nd3
              have ina : a0 ∈ fps i := sub3 a0 (by simp)
              have inF : ∀ q ∈ fs.flatten, q ∈ fps i := fun q hq => sub3 q (List.mem_cons_of_mem _ hq)
              -- what is new there stands apart from what was kept
              have hax : ∀ q ∈ fpx, q ∉ fps i := fun q hq hq' => by
                have h3 := (hfx q hq).2.2.1
                have h4 := (pt.pr q hq').2.2.2.1
                rw [h3] at h4
                exact (pt.pr q hq').2.1 h4.symm
              have upF : ∀ q ∈ fs.flatten, upd H3 a0 (.lst (ys ++ [vx])) q = H3 q := fun q hq => upd_ne fun y => nd3.1 (by rw [← y]; exact hq)
              have upX : ∀ q ∈ fpx, upd H3 a0 (.lst (ys ++ [vx])) q = H3 q := fun q hq => upd_ne fun y => hax q hq (by rw [y]; exact ina)
              have efl : (fs ++ [fpx]).flatten = fs.flatten ++ fpx := by simp
              obtain ⟨fp4, d4, es4, ow4, nd4, sub4⟩ := wand F3 (upd H3 a0 (.lst (ys ++ [vx]))) (.list (xs ++ [x])) (a0 :: (fs ++ [fpx]).flatten) (Same.refl _) (fun q hq hn' => upd_ne fun y => hn' (by simp [y]))
                ⟨a0, _, _, _, rfl, rfl, upd_same, rfl, (al.imp fun _ _ cc hc o => ow_mono (Same.refl _) o fun q hq => upF q (List.mem_flatten.mpr ⟨cc, hc, hq⟩)).append (.cons (ow_mono (Same.refl _) owx upX) .nil)⟩
                (fun q hq hq' => by
                  rw [efl] at hq
                  rcases List.mem_cons.mp hq with y | hq
                  · rw [y]; exact List.mem_cons_self
                  · rcases List.mem_append.mp hq with hq | hq
                    · exact List.mem_cons_of_mem _ hq
                    · exact absurd hq' (hax q hq))
                (by
                  rw [efl, List.nodup_cons, List.nodup_append]
                  refine ⟨fun y => ?_, nd3.2, ndx, fun q hq q' hq' eq => hax q' hq' (by rw [← eq]; exact inF q hq)⟩
                  rcases List.mem_append.mp y with y | y
                  · exact nd3.1 y
                  · exact hax a0 y ina)
              rw [hs] at es4
              cases es4
              refine p F3 _ σ _ (sF2.trans sF3) (r.putback hw r3 ina ow4 nd4 fun q hq => ?_)
              rcases sub4 q hq with h | h
              · rw [efl] at h
                rcases List.mem_cons.mp h with y | h
                · rw [y]; exact .inl ina
                · rcases List.mem_append.mp h with h | h
                  · exact .inl (inF q h)
                  · obtain ⟨b1, b2, b3, b4⟩ := hfx q h
                    refine .inr ⟨b1, b2, ?_, b4⟩
                    rcases from_none b3 with ⟨j, hj, hp'⟩ | hb
                    · rcases (r.off j q (asd_sub hj).2).2.2 with h | ⟨_, h⟩
                      · exact h
                      · rw [hp'] at h; cases h
                    · exact r.live q hb
              · exact .inl h.1
            · exact p.elim
          · exact p.elim
        · exact p.elim
  · exact p.elim⟩
end
/-! ### what these come to -/
section
variable {α : Type} {s : DS} {Nx Bk Ct : DS → Prop} {Ex : Xc → DS → Prop} {Rt : D → DS → Prop}
theorem run_putP_0 {i : Nat} {mp : D → M (List Sel)} {me m : M D} : Run0 (sPutP i mp me m) s Nx Rt Bk Ct Ex = Ev0 m s fun v s1 => So0 (look s1 i) fun d => Ev0 (mp d) (s1.set i none) fun π s2 => Ev0 me s2 fun z s3 => So0 (iof z) fun j => So0 (getP π d) fun x => So0 (lof x) fun xs => So0 (ixN xs.length j) fun n => So0 (setP π d (.list (xs.set n v))) fun d' => Nx (s3.set i (some d')) := by
  unfold Run0 sPutP look Ev0
  cases m s with
  | no => rfl
  | ok v s1 =>
    simp only
    cases s1[i]? with
    | none => rfl
    | some o =>
      cases o with
      | none => rfl
      | some d =>
        simp only [so_some_0]
        cases mp d (s1.set i none) with
        | no => rfl
        | ok π s2 =>
          simp only
          cases me s2 with
          | no => rfl
          | ok z s3 =>
            simp only
            cases z with
            | int j =>
              simp only [iof, so_some_0]
              cases getP π d with
              | none => rfl
              | some x =>
                simp only [so_some_0]
                cases x with
                | list xs =>
                  simp only [lof, so_some_0]
                  cases ixN xs.length j with
                  | none => rfl
                  | some n =>
                    simp only [so_some_0]
                    cases setP π d (.list (xs.set n v)) <;> rfl
                | _ => rfl
            | _ => rfl
theorem run_appP_0 {i : Nat} {mp : D → M (List Sel)} {m : M D} : Run0 (sAppP i mp m) s Nx Rt Bk Ct Ex = So0 (look s i) fun d => Ev0 (mp d) (s.set i none) fun π s2 => Ev0 m s2 fun v s3 => So0 (getP π d) fun x => So0 (lof x) fun xs => decide (xs.length < sizeLine) = true ∧ So0 (setP π d (.list (xs ++ [v]))) fun d' => Nx (s3.set i (some d')) := by
  unfold Run0 sAppP look Ev0
  cases s[i]? with
  | none => rfl
  | some o =>
    cases o with
    | none => rfl
    | some d =>
      simp only [so_some_0]
      cases mp d (s.set i none) with
      | no => rfl
      | ok π s2 =>
        simp only
        cases m s2 with
        | no => rfl
        | ok v s3 =>
          simp only
          cases getP π d with
          | none => rfl
          | some x =>
            simp only [so_some_0]
            cases x with
            | list xs =>
              simp only [lof, so_some_0]
              by_cases hc : decide (xs.length < sizeLine) = true
              · simp only [hc, if_true, true_and]
                cases setP π d (.list (xs ++ [v])) <;> rfl
              · simp only [hc, if_false, false_and, Bool.false_eq_true]
            | _ => rfl
theorem ev_plR_0 {d : D} {Q : List Sel → DS → Prop} : Ev0 (plR d) s Q = Q [] s := nr rfl
def ixP (π : List Sel) (d : D) (z : D) : Option (List Sel) := match z, getP π d with
  | .int j, some (.list xs) => (ixN xs.length j).map fun n => π ++ [.ix n]
  | _, _ => none
theorem ev_plIx_0 {d : D} {mp : D → M (List Sel)} {me : M D} {Q : List Sel → DS → Prop} : Ev0 (plIx mp me d) s Q = Ev0 (mp d) s fun π s1 => Ev0 me s1 fun z s2 => So0 (ixP π d z) fun ρ => Q ρ s2 := by
  unfold plIx
  rw [ev_bnd_0]; refine ev_ext_0 fun π s1 => ?_
  rw [ev_bnd_0]; refine ev_ext_0 fun z s2 => ?_
  rw [ev_opt_0]
  rfl
theorem ev_fz_0 {i : Nat} {js : List Nat} {m : M D} {Q : D → DS → Prop} : Ev0 (mFz i js m) s Q = So0 (look s i) fun _ => Ev0 m s fun d s' => (noL d && fzOk js s') = true ∧ Q d (mix s s' js) := by
  unfold Ev0 mFz look
  cases s[i]? with
  | none => rfl
  | some o =>
    cases o with
    | none => rfl
    | some x =>
      simp only [so_some_0]
      cases m s with
      | no => rfl
      | ok d s' =>
        simp only
        by_cases hc : (noL d && fzOk js s') = true
        · simp only [hc, if_true, true_and]
        · simp only [hc, if_false, false_and, Bool.false_eq_true]
theorem ev_rep_0 {a b : M D} {Q : D → DS → Prop} : Ev0 (mRep a b) s Q = Ev0 a s fun x s1 => Ev0 b s1 fun y s2 => So0 (lof x) fun xs => So0 (iof y) fun k => repC xs.length k = true ∧ Q (.list (List.replicate k.toNat xs).flatten) s2 := by
  unfold mRep
  rw [ev_bnd_0]; refine ev_ext_0 fun x s1 => ?_
  rw [ev_bnd_0]; refine ev_ext_0 fun y s2 => ?_
  rw [ev_opt_0]
  cases x with
  | list xs =>
    cases y with
    | int k =>
      simp only [lof, iof, so_some_0]
      rw [so_if_0]
      rfl
    | _ => rfl
  | _ => cases y <;> rfl
theorem run_putP {i : Nat} {mp : D → M (List Sel)} {me m : M D} : Run (sPutP i mp me m) s Nx Rt Bk Ct Ex = Ev m s fun v s1 => So (look s1 i) fun d => Ev (mp d) (s1.set i none) fun π s2 => Ev me s2 fun z s3 => So (iof z) fun j => So (getP π d) fun x => So (lof x) fun xs => So (ixN xs.length j) fun n => So (setP π d (.list (xs.set n v))) fun d' => Nx (s3.set i (some d')) := by with_unfolding_all exact run_putP_0
theorem run_appP {i : Nat} {mp : D → M (List Sel)} {m : M D} : Run (sAppP i mp m) s Nx Rt Bk Ct Ex = So (look s i) fun d => Ev (mp d) (s.set i none) fun π s2 => Ev m s2 fun v s3 => So (getP π d) fun x => So (lof x) fun xs => decide (xs.length < sizeLine) = true ∧ So (setP π d (.list (xs ++ [v]))) fun d' => Nx (s3.set i (some d')) := by with_unfolding_all exact run_appP_0
theorem ev_plR {d : D} {Q : List Sel → DS → Prop} : Ev (plR d) s Q = Q [] s := by with_unfolding_all exact ev_plR_0
theorem ev_plIx {d : D} {mp : D → M (List Sel)} {me : M D} {Q : List Sel → DS → Prop} : Ev (plIx mp me d) s Q = Ev (mp d) s fun π s1 => Ev me s1 fun z s2 => So (ixP π d z) fun ρ => Q ρ s2 := by with_unfolding_all exact ev_plIx_0
theorem ev_fz {i : Nat} {js : List Nat} {m : M D} {Q : D → DS → Prop} : Ev (mFz i js m) s Q = So (look s i) fun _ => Ev m s fun d s' => (noL d && fzOk js s') = true ∧ Q d (mix s s' js) := by with_unfolding_all exact ev_fz_0
theorem ev_rep {a b : M D} {Q : D → DS → Prop} : Ev (mRep a b) s Q = Ev a s fun x s1 => Ev b s1 fun y s2 => So (lof x) fun xs => So (iof y) fun k => repC xs.length k = true ∧ Q (.list (List.replicate k.toNat xs).flatten) s2 := by with_unfolding_all exact ev_rep_0
theorem so_listOfL {l : List D} {Q : D → Prop} : So (listOfD [.list l]) Q = Q (.list l) := by with_unfolding_all exact nr rfl
theorem so_listOfT {l : List D} {Q : D → Prop} : So (listOfD [.tuple l]) Q = Q (.list l) := by with_unfolding_all exact nr rfl
theorem mx0 {s s' : DS} : mix s s' [] = s := nr rfl
theorem mxC {s s' : DS} {j : Nat} {js : List Nat} : mix s s' (j :: js) = (mix s s' js).set j (oat s' j) := nr rfl
theorem fz0 {s : DS} : fzOk [] s = true := nr rfl
theorem noL_i {i : Int} : noL (.int i) = true := nr rfl
theorem noL_n : noL .none = true := nr rfl
theorem noL_b {b : Bool} : noL (.bool b) = true := nr rfl
theorem noL_s {b : Str} : noL (.str b) = true := nr rfl
theorem noL_t {l : List D} : noL (.tuple l) = noLs l := nr (by simp [noL])
theorem noLs_n : noLs [] = true := nr (by simp [noLs])
theorem noLs_c {x : D} {l : List D} : noLs (x :: l) = (noL x && noLs l) := nr (by simp [noLs])
theorem getP0 {d : D} : getP [] d = some d := nr rfl
theorem setP0 {d x : D} : setP [] d x = some x := nr rfl
/-- one step into a list -/
theorem so_ixP0 {l : List D} {j : Int} {Q : List Sel → Prop} : So (ixP [] (.list l) (.int j)) Q = So (ixN l.length j) fun n => Q [.ix n] := by
  show So ((ixN l.length j).map fun n => [] ++ [Sel.ix n]) Q = _
  rw [so_map]; rfl
theorem so_getP1 {l : List D} {n : Nat} {Q : D → Prop} : So (getP [.ix n] (.list l)) Q = So l[n]? Q := by
  have : getP [.ix n] (.list l) = l[n]? := by
    show (match l[n]? with | some d => getP [] d | none => none) = _
    cases l[n]? <;> rfl
  rw [this]
theorem so_setP1 {l : List D} {n : Nat} {x : D} {Q : D → Prop} (h : n < l.length) (q : Q (.list (l.set n x))) : So (setP [.ix n] (.list l) x) Q := by
  have : setP [.ix n] (.list l) x = some (.list (l.set n x)) := by
    show (match l[n]? with | some d => (setP [] d x).map fun d' => PyData.list (l.set n d') | none => none) = _
    rw [List.getElem?_eq_getElem h]
    rfl
  rw [this, so_some]
  exact q
end
end Z
namespace Z
open PySem L2
theorem o_lst0 {K : Fg} {c : Ctx} {O : List Kd} {k : Kd} : DO K c O (.ls k) (tLst tNil) (mLst mNil) := ⟨fun {F H σ fps ds ds' d} rl e Q q => by
  obtain ⟨xs, s1, e1, g1⟩ := bnd_ok e
  cases e1
  obtain ⟨g2, z⟩ := opt_ok g1
  subst z
  split at g2
  · rename_i hf
    cases g2
    refine ⟨fits_of hf, fun p hp => ?_⟩
    obtain ⟨hF, h0, hq⟩ := rl.fresh hp
    refine q F _ fps (.ref p) [p] (Same.refl _) (rl.allocO hp _) ⟨p, [], [], [], rfl, rfl, upd_same, rfl, .nil⟩ (fun q' hq' => ?_) (by simp)
    have : q' = p := by simpa using hq'
    subst this
    exact ⟨hF, by rw [upd_same]; simp, h0, hq⟩
  · cases g2⟩
end Z
namespace Z
open PySem L2
def flatO : Option D → Bool
  | some d => flatOwn d
  | none => true
theorem fzC {s : DS} {j : Nat} {js : List Nat} : fzOk (j :: js) s = (flatO (oat s j) && fzOk js s) := by
  unfold fzOk
  rw [List.all_cons]
  congr 1
  unfold oat
  cases s[j]? with
  | none => rfl
  | some o => cases o <;> rfl
theorem flO {d : D} : flatO (some d) = flatOwn d := nr rfl
theorem flN : flatO none = true := nr rfl
end Z
namespace Z
open PySem L2
theorem so_listL {l : List D} {Q : D → Prop} : So (listD [.list l]) Q = Q (.list l) := by with_unfolding_all exact nr rfl
theorem so_listT {l : List D} {Q : D → Prop} : So (listD [.tuple l]) Q = Q (.list l) := by with_unfolding_all exact nr rfl
theorem so_tupL {l : List D} {Q : D → Prop} : So (tupleD [.list l]) Q = Q (.tuple l) := by with_unfolding_all exact nr rfl
theorem so_tupT {l : List D} {Q : D → Prop} : So (tupleD [.tuple l]) Q = Q (.tuple l) := by with_unfolding_all exact nr rfl
end Z
set_option Elab.async false
set_option linter.all false
set_option maxRecDepth 100000
namespace Z
open PySem L2 PyProof.Rows
/-! ### a dict of the module with ints alone -/
def entB : List DictEntry → List (Int × Int) → Bool
  | [], [] => true
  | ⟨h, .int k _, .int v _⟩ :: es, (k', v') :: r => decide (h = hashInt k) && (decide (k = k') && (decide (v = v') && entB es r))
  | _, _ => false
def kintB (K : Fg) (a : Addr) (kvs : List (Int × Int)) : Bool := (match K.lookup a with
  | some ⟨.type c, none, .dict es _, sl⟩ => decide (c = "dict") && (decide (sl = #[]) && entB es.toList kvs)
  | _ => false) && (!(a == sysModules) && decide (kvs.map (·.1)).Nodup)
structure KInt (K : Fg) (a : Addr) (kvs : List (Int × Int)) : Prop where
  ok : kintB K a kvs = true
theorem entB_ok {P : Program} {w : World} : ∀ {es : List DictEntry} {kvs : List (Int × Int)}, entB es kvs = true → ∃ vs : List (Key × Value), Pairs (mixKind P w) es vs ∧ (∀ e ∈ es, ∃ k, (mixKind P w).is k e.key = true ∧ e.hash = (mixKind P w).hash k) ∧ vs.map (·.1) = kvs.map (fun p => Sum.inl p.1) ∧ ∀ i : Int, RelO ((kvs.lookup i).map V.int) (valueAt vs (.inl i))
  | [], [], _ => ⟨[], .nil, fun e h => (by cases h), rfl, fun i => True.intro⟩
  | [], _ :: _, h => by cases h
  | ⟨hh, kk, vv⟩ :: es, [], h => by
    cases kk <;> cases vv <;> cases h
  | ⟨hh, kk, vv⟩ :: es, (k', v') :: r, h => by
    cases kk with
    | int k t =>
      cases vv with
      | int v u =>
        unfold entB at h
        rw [Bool.and_eq_true, Bool.and_eq_true, Bool.and_eq_true] at h
        obtain ⟨h1, h2, h3, h4⟩ := h
        have h1 : hh = hashInt k := of_decide_eq_true h1
        have h2 : k = k' := of_decide_eq_true h2
        have h3 : v = v' := of_decide_eq_true h3
        subst h1 h2 h3
        obtain ⟨vs, p, ks, em, rv⟩ := entB_ok (P := P) (w := w) h4
        refine ⟨(.inl k, .int v u) :: vs, .cons (mixKind_int P w k t) rfl p, fun e he => ?_, by simp [em], fun i => ?_⟩
        · rcases List.mem_cons.mp he with rfl | he
          · exact ⟨.inl k, mixKind_int P w k t, rfl⟩
          · exact ks e he
        · rw [List.lookup_cons]
          unfold valueAt
          rw [List.find?_cons]
          by_cases z : i = k
          · subst z
            simp only [beq_self_eq_true]
            simp only [decide_true]
            exact ⟨u, rfl⟩
          · have e1 : (i == k) = false := by simpa using z
            have e2 : decide ((Sum.inl k : Key) = Sum.inl i) = false := decide_eq_false fun q => z (Sum.inl.inj q).symm
            simp only [e1, e2]
            exact rv i
      | _ => cases h
    | _ => cases vv <;> cases h
theorem KInt.dict {K : Fg} {a : Addr} {kvs : List (Int × Int)} (x : KInt K a kvs) {P : Program} {w : World} {h : Heap} (X : K.In h) : (a == sysModules) = false ∧ ∃ vs : List (Key × Value), h.DictOf (mixKind P w) a vs ∧ ∀ i : Int, RelO ((kvs.lookup i).map V.int) (valueAt vs (.inl i)) := by
  have ok := x.ok
  unfold kintB at ok
  rw [Bool.and_eq_true, Bool.and_eq_true] at ok
  obtain ⟨h1, h2, h3⟩ := ok
  refine ⟨by simpa using h2, ?_⟩
  cases q : K.lookup a with
  | none => rw [q] at h1; cases h1
  | some o =>
    rw [q] at h1
    obtain ⟨oc, od, dt, sl⟩ := o
    cases oc with
    | type c =>
      cases od with
      | none =>
        cases dt with
        | dict es ep =>
          dsimp only at h1
          rw [Bool.and_eq_true, Bool.and_eq_true] at h1
          obtain ⟨e1, e2, e3⟩ := h1
          have e1 : c = "dict" := of_decide_eq_true e1
          have e2 : sl = #[] := of_decide_eq_true e2
          subst e1 e2
          obtain ⟨vs, p, ks, em, rv⟩ := entB_ok (P := P) (w := w) e3
          refine ⟨vs, ⟨_, es, ep, X _ _ q, ⟨rfl, rfl, rfl⟩, rfl, fun e he => ks e (by simpa using he), p, ?_⟩, rv⟩
          rw [em]
          have nd : (kvs.map (·.1)).Nodup := of_decide_eq_true h3
          have : kvs.map (fun p => (Sum.inl p.1 : Key)) = (kvs.map (·.1)).map Sum.inl := by rw [List.map_map]; rfl
          rw [this]
          exact List.Pairwise.map _ (fun a b (hne : a ≠ b) (z : (Sum.inl a : Key) = Sum.inl b) => hne (Sum.inl.inj z)) nd
        | _ => cases h1
      | some d => cases dt <;> cases h1
    | _ => cases od <;> cases dt <;> cases h1
def tKGet (kvs : List (Int × Int)) (te : TE) : TE := fun σ H Q => te σ H fun y H1 => ∃ i v, y = .int i ∧ kvs.lookup i = some v ∧ Q (.int v) H1
def tKIn (kvs : List (Int × Int)) (neg : Bool) (te : TE) : TE := fun σ H Q => te σ H fun y H1 => ∃ i, y = .int i ∧ Q (.bl (neg.xor (kvs.lookup i).isSome)) H1
section
variable {X : Cx} {a : Addr} {kvs : List (Int × Int)} {x : Str} {p pos : Pos} {e : Expr} {te : TE}
theorem pe_kget (hg : Gl X x) (hm : X.mg x = some (.ref a)) (hK : KInt X.K a kvs) (he : PE X e te) (hs : NoSl e) (hd : (x == ("__debug__" : Str)) = false := by decide) : PE X (.Subscript (.Name x p) e pos) (tKGet kvs te) := by
  refine ⟨fun pins s σ H Q I h => ?_⟩
  have ho : PE X (.Name x p) (tC (.ref a)) := pe_glob hg hm rfl hd
  refine subD_of PySem.F.slot_dict_getitem.lookup hs (thn (ho.run pins s σ H (fun x1 H1 => x1 = .ref a ∧ H1 = H) I ⟨rfl, rfl⟩) fun u s1 ⟨x1, H1, I1, rx, ex, eH⟩ => ?_)
  subst ex eH
  obtain rfl : u = Value.ref a := rx
  refine thn (he.run pins s1 σ H1 _ I1 h) fun iv s2 ⟨y, H2, I2, ry, i, v, ey, l, q2⟩ => ?_
  subst ey
  obtain ⟨hd, vs, dd, rv⟩ := hK.dict (P := X.prog) (w := X.w) I2.kIn
  have r := rv i
  rw [l] at r
  obtain ⟨w', hw, rw'⟩ := RelO.some_of r
  exact ⟨dd.mapOf.typeIs, wpAny_getItem_of (kV_is (k := .inl i) ry) dd.mapOf hw ⟨.int v, H2, I2.tok _, rw', q2⟩⟩
theorem pc_kin (hg : Gl X x) (hm : X.mg x = some (.ref a)) (hK : KInt X.K a kvs) (he : PE X e te) (hd : (x == ("__debug__" : Str)) = false := by decide) : PC X .In e (.Name x p) (tKIn kvs false te) := by
  refine ⟨fun pins s σ H Q I h => ?_⟩
  refine thn (he.run pins s σ H _ I h) fun iv s1 ⟨y, H1, I1, ry, i, ey, q1⟩ => ?_
  subst ey
  have ho : PE X (.Name x p) (tC (.ref a)) := pe_glob hg hm rfl hd
  refine thn (ho.run pins s1 σ H1 (fun x1 H2 => x1 = .ref a ∧ H2 = H1) I1 ⟨rfl, rfl⟩) fun u s2 ⟨x1, H2, I2, rx, ex, eH⟩ => ?_
  subst ex eH
  obtain rfl : u = Value.ref a := rx
  obtain ⟨hd, vs, dd, rv⟩ := hK.dict (P := X.prog) (w := X.w) I2.kIn
  refine wpAny_in_of (kV_is (k := .inl i) ry) hd dd.mapOf ⟨.bl (kvs.lookup i).isSome, H2, I2.tok _, ?_, by simpa using q1⟩
  rw [← (rv i).isSome_eq, Option.isSome_map]
  rfl
theorem pc_knotin (hg : Gl X x) (hm : X.mg x = some (.ref a)) (hK : KInt X.K a kvs) (he : PE X e te) (hd : (x == ("__debug__" : Str)) = false := by decide) : PC X .NotIn e (.Name x p) (tKIn kvs true te) := by
  refine ⟨fun pins s σ H Q I h => ?_⟩
  refine thn (he.run pins s σ H _ I h) fun iv s1 ⟨y, H1, I1, ry, i, ey, q1⟩ => ?_
  subst ey
  have ho : PE X (.Name x p) (tC (.ref a)) := pe_glob hg hm rfl hd
  refine thn (ho.run pins s1 σ H1 (fun x1 H2 => x1 = .ref a ∧ H2 = H1) I1 ⟨rfl, rfl⟩) fun u s2 ⟨x1, H2, I2, rx, ex, eH⟩ => ?_
  subst ex eH
  obtain rfl : u = Value.ref a := rx
  obtain ⟨hd, vs, dd, rv⟩ := hK.dict (P := X.prog) (w := X.w) I2.kIn
  refine wpAny_notIn_of (kV_is (k := .inl i) ry) hd dd.mapOf ⟨.bl (!(kvs.lookup i).isSome), H2, I2.tok _, ?_, by simpa using q1⟩
  rw [← (rv i).isSome_eq, Option.isSome_map]
  rfl
end
def kgetD (kvs : List (Int × Int)) : D → Option D
  | .int i => (kvs.lookup i).map .int
  | _ => none
def kinD (kvs : List (Int × Int)) (neg : Bool) : D → Option D
  | .int i => some (.bool (neg.xor (kvs.lookup i).isSome))
  | _ => none
section
variable {K : Fg} {c : Ctx} {O : List Kd} {te : TE} {m : M D} {kvs : List (Int × Int)} {neg : Bool}
theorem un_val {f : D → Option D} {m : M D} {ds ds' : DS} {d : D} (e : mUn f (mV m) ds = .ok d ds') : ∃ x, m ds = .ok x ds' ∧ f x = some d := by
  obtain ⟨x, s1, e1, g2⟩ := bnd_ok e
  obtain ⟨dx, s2, e3, g3⟩ := bnd_ok e1
  cases g3
  dsimp only [res] at g2
  obtain ⟨g4, z⟩ := opt_ok g2
  subst z
  exact ⟨dx, e3, g4⟩
theorem d_kget (h : DE K c O te m) : DE K c O (tKGet kvs te) (mUn (kgetD kvs) (mV m)) := ⟨fun {F H σ fps ds ds' d} rl e Q q => by
  obtain ⟨x, e1, e2⟩ := un_val e
  refine h.run rl e1 _ fun F1 H1 fps1 v sF r1 dp => ?_
  cases x with
  | int i =>
    cases dp
    have e2 : (kvs.lookup i).map PyData.int = some d := e2
    cases z : kvs.lookup i with
    | none => rw [z] at e2; cases e2
    | some v => rw [z] at e2; cases e2; exact ⟨i, v, rfl, z, q F1 H1 fps1 _ sF r1 (.int _)⟩
  | _ => cases e2⟩
theorem d_kin (h : DE K c O te m) : DE K c O (tKIn kvs neg te) (mUn (kinD kvs neg) (mV m)) := ⟨fun {F H σ fps ds ds' d} rl e Q q => by
  obtain ⟨x, e1, e2⟩ := un_val e
  refine h.run rl e1 _ fun F1 H1 fps1 v sF r1 dp => ?_
  cases x with
  | int i => cases dp; cases e2; exact ⟨i, rfl, q F1 H1 fps1 _ sF r1 (.bl _)⟩
  | _ => cases e2⟩
theorem so_kget {i : Int} {Q : D → Prop} : So (kgetD kvs (.int i)) Q = So (kvs.lookup i) fun v => Q (.int v) := by
  show So ((kvs.lookup i).map PyData.int) Q = _
  rw [so_map]
theorem so_kin {i : Int} {Q : D → Prop} : So (kinD kvs neg (.int i)) Q = Q (.bool (neg.xor (kvs.lookup i).isSome)) := by with_unfolding_all exact nr rfl
end
/-! ### the head with one more look -/
def obsE (n : Nat) (fa : List He.Fa) (fn : List He.DefD) (ex : Fg → Bool) (g : Addr → Option Obj) : He.AlD × Bool := (He.obsDG n fa fn g, ex (He.frG g (He.asD g n)))
def hookE (n : Nat) (fa : List He.Fa) (fn : List He.DefD) (ex : Fg → Bool) : PySem.W.Hook where
  α := He.AlD × Bool
  obs := fun s => obsE n fa fn ex s.heap.get?
  val := fun _ => (He.valD fn, true)
  says := fun _ h => ∃ K : Fg, K.In h ∧ He.SaysD fa fn K ∧ ex K = true
  of := fun _ s e => ⟨He.frG s.heap.get? (He.asD s.heap.get? n), He.frG_in, congrArg (fun z : He.AlD × Bool => z.1) e, congrArg (fun z : He.AlD × Bool => z.2) e⟩
  keeps := fun _ _ _ ⟨K, hK, c⟩ k => ⟨K, PySem.W.Frag.In.keeps hK k, c⟩
theorem obsE_eq {n : Nat} {fa : List He.Fa} {fn : List He.DefD} {ex : Fg → Bool} {g : Addr → Option Obj} {s : Shared} (h : ∀ a, g a = s.heap.get? a) : obsE n fa fn ex g = (hookE n fa fn ex).obs s := by
  have e : g = s.heap.get? := funext h
  rw [e]
  rfl
/-- the module's name stands for such a dict -/
def kdB (x : Str) (kvs : List (Int × Int)) (K : Fg) : Bool := kintB K (He.ga K x) kvs
end Z
namespace Z
open PySem L2
/-- a def that is never called so -/
theorem fn_okN {P : Program} {w : World} {K : Fg} {mg : Str → Option Value} {base : Heap} {x : Str} {st : Stmt} {f : Addr} {fd : FuncData} {N xs : List Str} {ps : List Kd} {rk : Kd} {k n m : Nat} (F : FnP K x st f fd) (S : FnScope N xs (defScope st)) (hx : xs.length = ps.length) (_ : n = n) :
    FnOk P w K mg base CX0 k f fd xs (spD K mg (fnD m n rk sNo) ps rk) := by
  have no : ∀ {vs H Q E}, ¬ spD K mg (fnD m n rk sNo) ps rk vs H Q E := fun {vs H Q E} h => by
    obtain ⟨F, fps, args, A, q⟩ := h
    unfold fnD at q
    by_cases z : args.length = n
    · rw [if_pos z] at q; exact q
    · rw [if_neg z] at q; exact q
  exact ⟨fun vs H Q E h => (no h).elim, fun A outer s H args us vs Q E _ _ _ _ h => (no h).elim⟩
end Z
set_option Elab.async false
set_option linter.all false
set_option maxRecDepth 100000
namespace Z
open PySem L2
/-! ### arguments that are slots' own things: changed in place (false), or handed over for good (true) -/
abbrev JS := List (Option (Nat × Bool))
inductive BgA (K : Fg) (F : Hp) (σ : St) : JS → List V → List D → Prop
  | nil : BgA K F σ [] [] []
  | e {v : V} {d : D} {js : JS} {vs : List V} {ds : List D} : Dp K F v d → BgA K F σ js vs ds → BgA K F σ (none :: js) (v :: vs) (d :: ds)
  | s {v : V} {j : Nat} {b : Bool} {js : JS} {vs : List V} {ds : List D} : σ[j]? = some (some v) → BgA K F σ js vs ds → BgA K F σ (some (j, b) :: js) (v :: vs) (.none :: ds)
theorem BgA.mono {K : Fg} {F F' : Hp} {σ : St} (s : Same F F') : ∀ {js : JS} {vs : List V} {ds : List D}, BgA K F σ js vs ds → BgA K F' σ js vs ds
  | _, _, _, .nil => .nil
  | _, _, _, .e h r => .e (dp_mono s h) (r.mono s)
  | _, _, _, .s h r => .s h (r.mono s)
structure DAG (K : Fg) (c : Ctx) (O : List Kd) (js : JS) (t : TA) (m : M (List D)) : Prop where
  run : ∀ {F H : Hp} {σ : St} {fps : Nat → List Addr} {ds ds' : DS} {es : List D}, Rel K c O F H σ fps ds → m ds = .ok es ds' → ∀ Q : List V → Hp → Prop,
    (∀ F' H' fps' vs, Same F F' → Rel K c O F' H' σ fps' ds' → BgA K F' σ js vs es → Q vs H') → t σ H Q
def mAt (j : Nat) : M D := fun s => match s[j]? with
  | some (some _) => .ok .none s
  | _ => .no
section
variable {K : Fg} {c : Ctx} {O : List Kd} {js : JS} {te : TE} {tl : TA} {m : M D} {ml : M (List D)}
theorem dag_nil : DAG K c O [] tNil mNil := ⟨fun r e Q q => by cases e; exact q _ _ _ [] (Same.refl _) r .nil⟩
theorem dag_e (ha : DE K c O te m) (hl : DAG K c O js tl ml) : DAG K c O (none :: js) (tCons te tl) (mCons m ml) := ⟨fun {F H σ fps ds ds' es} rl e Q q => by
  obtain ⟨x, s1, e1, g1⟩ := bnd_ok e
  obtain ⟨xs, s2, e2, g2⟩ := bnd_ok g1
  cases g2
  exact ha.run rl e1 _ fun F1 H1 fps1 v sF r1 dp => hl.run r1 e2 _ fun F2 H2 fps2 vs sF2 r2 al => q F2 H2 fps2 _ (sF.trans sF2) r2 (.e (dp_mono sF2 dp) al)⟩
theorem dag_s (j : Nat) (b : Bool) (hl : DAG K c O js tl ml) : DAG K c O (some (j, b) :: js) (tCons (tVar j) tl) (mCons (mAt j) ml) := ⟨fun {F H σ fps ds ds' es} rl e Q q => by
  obtain ⟨x, s1, e1, g1⟩ := bnd_ok e
  obtain ⟨xs, s2, e2, g2⟩ := bnd_ok g1
  cases g2
  unfold mAt at e1
  split at e1
  · rename_i d hd
    cases e1
    obtain ⟨v, hv, _⟩ := rl.slots j _ hd
    exact ⟨v, hv, hl.run rl e2 _ fun F2 H2 fps2 vs sF2 r2 al => q F2 H2 fps2 _ sF2 r2 (.s hv al)⟩
  · cases e1⟩
end
def fillG (s : DS) : JS → List D → Option (List D)
  | [], [] => some []
  | none :: js, x :: xs => match fillG s js xs with
    | some r => some (x :: r)
    | none => none
  | some (j, _) :: js, _ :: xs => match look s j with
    | some d => match fillG s js xs with
      | some r => some (d :: r)
      | none => none
    | none => none
  | _, _ => none
def backG : JS → List D → DS → DS
  | none :: js, _ :: as, s => backG js as s
  | some (j, false) :: js, a :: as, s => backG js as (s.set j (some a))
  | some (j, true) :: js, _ :: as, s => backG js as (s.set j none)
  | _, _, s => s
inductive JOk (O : List Kd) : List Kd → JS → Prop
  | nil : JOk O [] []
  | e {ps : List Kd} {js : JS} : JOk O ps js → JOk O (.sh :: ps) (none :: js)
  | pm {j : Nat} {k : Kd} {ps : List Kd} {js : JS} : isPm O[j]? = false → O.getD j .sh = k → JOk O ps js → JOk O (.pm k :: ps) (some (j, false) :: js)
  | pp {j : Nat} {k : Kd} {ps : List Kd} {js : JS} : O[j]? = some (.pm k) → JOk O ps js → JOk O (.pm k :: ps) (some (j, false) :: js)
  | mv {j : Nat} {k : Kd} {ps : List Kd} {js : JS} : isPm O[j]? = false → O.getD j .sh = k → isPm (some k) = false → JOk O ps js → JOk O (k :: ps) (some (j, true) :: js)
def gl (fps : Nat → List Addr) (js : JS) (i : Nat) : List Addr := match js[i]? with
  | some (some (j, _)) => fps j
  | _ => []
def slG (js : JS) : List Nat := js.filterMap fun o => o.map (·.1)
def posG : JS → Nat → Option (Nat × Bool)
  | [], _ => none
  | none :: js, j => (posG js j).map fun p => (p.1 + 1, p.2)
  | some (l, b) :: js, j => if l = j then some (0, b) else (posG js j).map fun p => (p.1 + 1, p.2)
theorem posG_some : ∀ {js : JS} {j i : Nat} {b : Bool}, posG js j = some (i, b) → js[i]? = some (some (j, b))
  | [], j, i, b, h => by cases h
  | none :: js, j, i, b, h => by
    unfold posG at h
    cases z : posG js j with
    | none => rw [z] at h; cases h
    | some p => rw [z] at h; cases h; exact posG_some (js := js) z
  | some (l, b') :: js, j, i, b, h => by
    unfold posG at h
    by_cases z : l = j
    · rw [if_pos z] at h; cases h; subst z; rfl
    · rw [if_neg z] at h
      cases z : posG js j with
      | none => rw [z] at h; cases h
      | some p => rw [z] at h; cases h; exact posG_some (js := js) z
theorem posG_none : ∀ {js : JS} {j i : Nat} {b : Bool}, posG js j = none → js[i]? ≠ some (some (j, b))
  | [], j, i, b, h => by simp
  | none :: js, j, i, b, h => by
    unfold posG at h
    cases z : posG js j with
    | some p => rw [z] at h; cases h
    | none =>
      cases i with
      | zero => simp
      | succ i => exact posG_none (js := js) z
  | some (l, b') :: js, j, i, b, h => by
    unfold posG at h
    by_cases z : l = j
    · rw [if_pos z] at h; cases h
    · rw [if_neg z] at h
      cases y : posG js j with
      | some p => rw [y] at h; cases h
      | none =>
        cases i with
        | zero => simp; intro h; exact absurd h z
        | succ i => exact posG_none (js := js) y
theorem slG_mem {js : JS} {j i : Nat} {b : Bool} (h : js[i]? = some (some (j, b))) : j ∈ slG js := by
  unfold slG
  exact List.mem_filterMap.mpr ⟨_, List.mem_of_getElem? h, rfl⟩
theorem posG_inj : ∀ {js : JS} {j i i' : Nat} {b b' : Bool}, (slG js).Nodup → js[i]? = some (some (j, b)) → js[i']? = some (some (j, b')) → i = i' ∧ b = b'
  | [], j, i, i', b, b', _, h, _ => by simp at h
  | none :: js, j, i, i', b, b', nd, h, h' => by
    cases i with
    | zero => simp at h
    | succ i =>
      cases i' with
      | zero => simp at h'
      | succ i' =>
        obtain ⟨e, e'⟩ := posG_inj (js := js) (by simpa [slG] using nd) (by simpa using h) (by simpa using h')
        exact ⟨by rw [e], e'⟩
  | some (l, c) :: js, j, i, i', b, b', nd, h, h' => by
    have nd' : l ∉ slG js ∧ (slG js).Nodup := by simpa [slG] using nd
    cases i with
    | zero =>
      have hl : l = j ∧ c = b := by simpa using h
      cases i' with
      | zero =>
        have hl' : l = j ∧ c = b' := by simpa using h'
        exact ⟨rfl, hl.2.symm.trans hl'.2⟩
      | succ i' => exact absurd (slG_mem (js := js) (by simpa using h')) (hl.1 ▸ nd'.1)
    | succ i =>
      cases i' with
      | zero =>
        have hl : l = j ∧ c = b' := by simpa using h'
        exact absurd (slG_mem (js := js) (by simpa using h)) (hl.1 ▸ nd'.1)
      | succ i' =>
        obtain ⟨e, e'⟩ := posG_inj (js := js) nd'.2 (by simpa using h) (by simpa using h')
        exact ⟨by rw [e], e'⟩
theorem posG_at {js : JS} {j i : Nat} {b : Bool} (nd : (slG js).Nodup) (h : js[i]? = some (some (j, b))) : posG js j = some (i, b) := by
  cases z : posG js j with
  | none => exact absurd h (posG_none z)
  | some p =>
    obtain ⟨i', b'⟩ := p
    obtain ⟨e, e'⟩ := posG_inj nd h (posG_some z)
    rw [e, e']
theorem backG_len : ∀ (js : JS) (as : List D) (s : DS), (backG js as s).length = s.length
  | [], _, s => rfl
  | none :: js, [], s => rfl
  | none :: js, _ :: as, s => backG_len js as s
  | some (j, false) :: js, [], s => rfl
  | some (j, true) :: js, [], s => rfl
  | some (j, false) :: js, a :: as, s => by unfold backG; rw [backG_len js as]; exact List.length_set
  | some (j, true) :: js, a :: as, s => by unfold backG; rw [backG_len js as]; exact List.length_set
theorem backG_out : ∀ (js : JS) (as : List D) (s : DS) (j : Nat), posG js j = none → (backG js as s)[j]? = s[j]?
  | [], _, s, j, h => rfl
  | none :: js, [], s, j, h => rfl
  | none :: js, _ :: as, s, j, h => backG_out js as s j (by unfold posG at h; simpa using h)
  | some (l, false) :: js, [], s, j, h => rfl
  | some (l, true) :: js, [], s, j, h => rfl
  | some (l, false) :: js, a :: as, s, j, h => by
    unfold posG at h
    by_cases z : l = j
    · rw [if_pos z] at h; cases h
    · rw [if_neg z] at h
      unfold backG; rw [backG_out js as _ j (by simpa using h)]; exact List.getElem?_set_ne z
  | some (l, true) :: js, a :: as, s, j, h => by
    unfold posG at h
    by_cases z : l = j
    · rw [if_pos z] at h; cases h
    · rw [if_neg z] at h
      unfold backG; rw [backG_out js as _ j (by simpa using h)]; exact List.getElem?_set_ne z
theorem posG_nil {js : JS} {j : Nat} (h : j ∉ slG js) : posG js j = none := by
  cases z : posG js j with
  | none => rfl
  | some p => exact absurd (slG_mem (posG_some (b := p.2) (i := p.1) z)) h
theorem backG_in : ∀ {js : JS} {as : List D} {s : DS} {j i : Nat} {b : Bool}, (slG js).Nodup → as.length = js.length → j < s.length → js[i]? = some (some (j, b)) → (backG js as s)[j]? = some (if b then none else as[i]?)
  | [], _, s, j, i, b, _, _, _, h => by simp at h
  | none :: js, [], s, j, i, b, _, hl, _, h => by simp at hl
  | none :: js, a :: as, s, j, i, b, nd, hl, hj, h => by
    cases i with
    | zero => simp at h
    | succ i => exact backG_in (js := js) (as := as) (by simpa [slG] using nd) (by simpa using hl) hj (by simpa using h)
  | some (l, c) :: js, [], s, j, i, b, _, hl, _, h => by simp at hl
  | some (l, c) :: js, a :: as, s, j, i, b, nd, hl, hj, h => by
    have nd' : l ∉ slG js ∧ (slG js).Nodup := by simpa [slG] using nd
    cases i with
    | zero =>
      have hh : l = j ∧ c = b := by simpa using h
      obtain ⟨rfl, rfl⟩ := hh
      cases c with
      | false => unfold backG; rw [backG_out js as _ l (posG_nil nd'.1), List.getElem?_set_self hj]; rfl
      | true => unfold backG; rw [backG_out js as _ l (posG_nil nd'.1), List.getElem?_set_self hj]; rfl
    | succ i =>
      cases c with
      | false => unfold backG; exact backG_in (js := js) (as := as) nd'.2 (by simpa using hl) (by rw [List.length_set]; exact hj) (by simpa using h)
      | true => unfold backG; exact backG_in (js := js) (as := as) nd'.2 (by simpa using hl) (by rw [List.length_set]; exact hj) (by simpa using h)
section
variable {K : Fg} {c : Ctx} {O ps : List Kd} {F H F' H' : Hp} {σ : St} {fps gps' : Nat → List Addr} {ds : DS}
theorem JOk.len : ∀ {ps : List Kd} {js : JS}, JOk O ps js → js.length = ps.length
  | _, _, .nil => rfl
  | _, _, .e h => by simp [h.len]
  | _, _, .pm _ _ h => by simp [h.len]
  | _, _, .pp _ h => by simp [h.len]
  | _, _, .mv _ _ _ h => by simp [h.len]
theorem unpm_not {k : Kd} (h : isPm (some k) = false) : unpm k = k := by cases k <;> first | rfl | cases h
theorem unpm_at {O : List Kd} {j : Nat} (h : isPm O[j]? = false) : unpm (O.getD j .sh) = O.getD j .sh := by
  rw [List.getD_eq_getElem?_getD]
  cases z : O[j]? with
  | none => rfl
  | some k => rw [z] at h; exact unpm_not h
theorem JOk.at : ∀ {ps : List Kd} {js : JS} {i j : Nat} {b : Bool}, JOk O ps js → js[i]? = some (some (j, b)) → (b = true → isPm O[j]? = false) ∧ isPm ps[i]? = !b ∧ (b = false → ps[i]? = some (.pm (unpm (O.getD j .sh))))
  | _, _, i, _, _, .nil, h => by simp at h
  | _, _, i, _, _, .e r, h => by
    cases i with
    | zero => simp at h
    | succ i => simpa using r.at (i := i) (by simpa using h)
  | _, _, i, _, _, .pm h1 h2 r, h => by
    cases i with
    | zero =>
      simp at h
      obtain ⟨rfl, rfl⟩ := h
      exact ⟨fun z => by (cases z), rfl, fun _ => by rw [unpm_at h1, h2]; rfl⟩
    | succ i => simpa using r.at (i := i) (by simpa using h)
  | _, _, i, _, _, .pp h1 r, h => by
    cases i with
    | zero =>
      simp at h
      obtain ⟨rfl, rfl⟩ := h
      exact ⟨fun z => by (cases z), rfl, fun _ => by rw [List.getD_eq_getElem?_getD, h1]; rfl⟩
    | succ i => simpa using r.at (i := i) (by simpa using h)
  | _, _, i, _, _, .mv h1 h2 h3 r, h => by
    cases i with
    | zero =>
      simp at h
      obtain ⟨rfl, rfl⟩ := h
      exact ⟨fun _ => h1, by simpa using h3, fun z => by cases z⟩
    | succ i => simpa using r.at (i := i) (by simpa using h)
theorem gl_mem {js : JS} {i : Nat} {q : Addr} (h : q ∈ gl fps js i) : ∃ j b, js[i]? = some (some (j, b)) ∧ q ∈ fps j := by
  unfold gl at h
  split at h
  · rename_i j b e; exact ⟨j, b, e, h⟩
  · cases h
theorem gl_at {js : JS} {i j : Nat} {b : Bool} (h : js[i]? = some (some (j, b))) : gl fps js i = fps j := by
  unfold gl; rw [h]
theorem argG (r : Rel K c O F H σ fps ds) : ∀ {ps : List Kd} {js : JS} {vs : List V} {xs args : List D}, JOk O ps js → BgA K F σ js vs xs → fillG ds js xs = some args →
    vs.length = ps.length ∧ args.length = ps.length ∧ ∀ i d, args[i]? = some d → ∃ v, vs[i]? = some v ∧ Ow K F H (ps.getD i .sh) v d (gl fps js i)
  | _, _, _, _, _, .nil, .nil, e => by cases e; exact ⟨rfl, rfl, fun i d h => by simp at h⟩
  | _, _, _, _, args, .e (js := js) jo, .e (vs := vs) (ds := xs) (d := d0) (v := v0) dp al, e => by
    unfold fillG at e
    cases z : fillG ds js xs with
    | none => rw [z] at e; cases e
    | some rr =>
      rw [z] at e
      cases e
      obtain ⟨h1, h2, h3⟩ := argG r jo al z
      refine ⟨by simp [h1], by simp [h2], fun i d h => ?_⟩
      cases i with
      | zero => cases h; exact ⟨v0, rfl, rfl, dp⟩
      | succ i =>
        obtain ⟨v, hv, ow⟩ := h3 i d (by simpa using h)
        exact ⟨v, by simpa using hv, by simpa [gl] using ow⟩
  | _, _, _, _, args, .pm (j := j) (js := js) hp hk jo, .s (vs := vs) (ds := xs) (v := v0) hv0 al, e => by
    unfold fillG at e
    cases y : look ds j with
    | none => rw [y] at e; cases e
    | some d0 =>
    rw [y] at e
    cases z : fillG ds js xs with
    | none => rw [z] at e; cases e
    | some rr =>
      rw [z] at e
      cases e
      obtain ⟨h1, h2, h3⟩ := argG r jo al z
      refine ⟨by simp [h1], by simp [h2], fun i d h => ?_⟩
      cases i with
      | zero =>
        cases h
        obtain ⟨u, hu, ow⟩ := r.slots j d0 (look_some y)
        rw [hv0] at hu; cases hu
        rw [hk] at ow
        exact ⟨v0, rfl, ow⟩
      | succ i =>
        obtain ⟨v, hv, ow⟩ := h3 i d (by simpa using h)
        exact ⟨v, by simpa using hv, by simpa [gl] using ow⟩
  | _, _, _, _, args, .pp (j := j) (k := k0) (js := js) hp jo, .s (vs := vs) (ds := xs) (v := v0) hv0 al, e => by
    have hk : O.getD j .sh = .pm k0 := by rw [List.getD_eq_getElem?_getD, hp]; rfl
    unfold fillG at e
    cases y : look ds j with
    | none => rw [y] at e; cases e
    | some d0 =>
    rw [y] at e
    cases z : fillG ds js xs with
    | none => rw [z] at e; cases e
    | some rr =>
      rw [z] at e
      cases e
      obtain ⟨h1, h2, h3⟩ := argG r jo al z
      refine ⟨by simp [h1], by simp [h2], fun i d h => ?_⟩
      cases i with
      | zero =>
        cases h
        obtain ⟨u, hu, ow⟩ := r.slots j d0 (look_some y)
        rw [hv0] at hu; cases hu
        rw [hk] at ow
        exact ⟨v0, rfl, ow⟩
      | succ i =>
        obtain ⟨v, hv, ow⟩ := h3 i d (by simpa using h)
        exact ⟨v, by simpa using hv, by simpa [gl] using ow⟩
  | _, _, _, _, args, .mv (j := j) (js := js) hp hk _ jo, .s (vs := vs) (ds := xs) (v := v0) hv0 al, e => by
    unfold fillG at e
    cases y : look ds j with
    | none => rw [y] at e; cases e
    | some d0 =>
    rw [y] at e
    cases z : fillG ds js xs with
    | none => rw [z] at e; cases e
    | some rr =>
      rw [z] at e
      cases e
      obtain ⟨h1, h2, h3⟩ := argG r jo al z
      refine ⟨by simp [h1], by simp [h2], fun i d h => ?_⟩
      cases i with
      | zero =>
        cases h
        obtain ⟨u, hu, ow⟩ := r.slots j d0 (look_some y)
        rw [hv0] at hu; cases hu
        rw [hk] at ow
        exact ⟨v0, rfl, ow⟩
      | succ i =>
        obtain ⟨v, hv, ow⟩ := h3 i d (by simpa using h)
        exact ⟨v, by simpa using hv, by simpa [gl] using ow⟩
theorem bgA_at : ∀ {js : JS} {vs : List V} {xs : List D} {i j : Nat} {b : Bool}, BgA K F σ js vs xs → js[i]? = some (some (j, b)) → vs[i]? = (σ[j]?).join
  | _, _, _, i, _, _, .nil, h => by simp at h
  | _, _, _, i, _, _, .e _ r, h => by
    cases i with
    | zero => simp at h
    | succ i => simpa using bgA_at r (i := i) (by simpa using h)
  | _, _, _, i, _, _, .s hv r, h => by
    cases i with
    | zero =>
      simp at h
      obtain ⟨rfl, rfl⟩ := h
      simp [hv]
    | succ i => simpa using bgA_at r (i := i) (by simpa using h)
theorem argR_G {js : JS} {vs : List V} {xs args : List D} (r : Rel K c O F H σ fps ds) (jo : JOk O ps js) (al : BgA K F σ js vs xs) (e : fillG ds js xs = some args) (nd : (slG js).Nodup) : ArgR K ps F H vs (gl fps js) args := by
  obtain ⟨h1, h2, h3⟩ := argG r jo al e
  refine ⟨h1, h2, r.sub, h3, fun i q hq => ?_, fun i => ?_, fun i l hil q hq hq' => ?_⟩
  · obtain ⟨j, b, _, hq⟩ := gl_mem hq
    exact ⟨(r.off j q hq).1, (r.off j q hq).2.1⟩
  · unfold gl
    split
    · exact r.nd _
    · exact List.nodup_nil
  · obtain ⟨j, b, e1, hq⟩ := gl_mem hq
    obtain ⟨j', b', e2, hq'⟩ := gl_mem hq'
    by_cases z : j = j'
    · subst z; exact hil (posG_inj nd e1 e2).1
    · exact r.dj j j' z q hq hq'
def fpG (js : JS) (gps' fps : Nat → List Addr) (j : Nat) : List Addr := match posG js j with
  | some (i, false) => gps' i
  | some (_, true) => []
  | none => fps j
theorem off_free (r : Rel K c O F H σ fps ds) {js : JS} {i : Nat} {q : Addr} (h : q ∈ gl fps js i) : c.H0 q = none ∨ c.own q := by
  obtain ⟨j, b, e1, hq⟩ := gl_mem h
  exact (r.off j q hq).2.2.imp id fun z => ⟨_, z.1⟩
theorem off_new (r : Rel K c O F H σ fps ds) {js : JS} (jo : JOk O ps js) {i j : Nat} {b : Bool} {q : Addr} (h : js[i]? = some (some (j, b))) (hb : b = true) (hq : q ∈ fps j) : c.H0 q = none := by
  rcases (r.off j q hq).2.2 with z | ⟨_, z⟩
  · exact z
  · rw [(jo.at h).1 hb] at z; cases z
theorem off_mv (r : Rel K c O F H σ fps ds) {js : JS} (jo : JOk O ps js) {q : Addr} (h : Mv ps (gl fps js) q) : c.H0 q = none := by
  obtain ⟨i, hq, hp⟩ := h
  obtain ⟨j, b, e1, hq⟩ := gl_mem hq
  obtain ⟨h1, h2, _⟩ := jo.at e1
  rw [hp] at h2
  have hb : b = true := by cases b <;> first | rfl | cases h2
  rcases (r.off j q hq).2.2 with h | ⟨_, h⟩
  · exact h
  · rw [h1 hb] at h; cases h
theorem Rel.callG (r : Rel K c O F H σ fps ds) {js : JS} {vs : List V} {xs args args' : List D} (jo : JOk O ps js) (al : BgA K F σ js vs xs) (e : fillG ds js xs = some args) (nd : (slG js).Nodup) (hl : args'.length = js.length)
    (o : OutB K ps F H F' H' vs (gl fps js) gps' args') : Rel K c O F' H' σ (fpG js gps' fps) (backG js args' ds) := by
  have hmv : ∀ {b}, Mv ps (gl fps js) b → ∃ i, b ∈ gl fps js i := fun ⟨i, h, _⟩ => ⟨i, h⟩
  have hout : ∀ j, posG js j = none → ∀ q ∈ fps j, ∀ i, q ∉ gl fps js i := fun j hj q hq i hi => by
    obtain ⟨j', b, e1, hq'⟩ := gl_mem hi
    by_cases z : j = j'
    · subst z; exact posG_none hj e1
    · exact r.dj j j' z q hq hq'
  have hpm : ∀ {j i}, posG js j = some (i, false) → ∀ q ∈ gps' i, F' q = none ∧ H' q ≠ none ∧ (H q = none ∨ Mv ps (gl fps js) q ∨ q ∈ fps j) := fun {j i} hj q hq => by
    obtain ⟨h1, h2, h3⟩ := o.off i q (by rw [(jo.at (posG_some hj)).2.1]; rfl) hq
    refine ⟨h1, h2, h3.imp id fun z => z.imp id fun z => ?_⟩
    rw [gl_at (posG_some hj)] at z
    exact z
  have hdj : ∀ {j i l}, posG js j = some (i, false) → posG js l = none → ∀ q, q ∈ gps' i → q ∉ fps l := fun {j i l} hj hl q hq hq' => by
    rcases (hpm hj q hq).2.2 with h | h | h
    · exact (r.off l q hq').2.1 h
    · obtain ⟨i', h⟩ := hmv h
      exact hout l hl q hq' i' h
    · refine hout l hl q hq' i ?_
      rw [gl_at (posG_some hj)]; exact h
  refine ⟨o.sub, r.base.trans o.ext, fun b u e n => ?_, fun b e => ?_, fun b u e => ?_, fun j x hx => ?_, fun j q hq => ?_, fun j => ?_, fun j l hjl q hq hq' => ?_, r.par, by rw [backG_len]; exact r.len⟩
  · refine o.keep b u (r.keep b u e n) fun i hi => ?_
    rcases off_free r hi with h | h
    · rw [h] at e; cases e
    · exact n h
  · rcases o.live b e with h | h
    · exact r.live b h
    · exact off_mv r jo h
  · rcases o.new b u e with h | h | h
    · exact r.new b u h
    · exact .inr (r.live b h)
    · exact .inr (off_mv r jo h)
  · cases z : posG js j with
    | none =>
      rw [backG_out js _ _ j z] at hx
      obtain ⟨u, hu, ow⟩ := r.slots j x hx
      refine ⟨u, hu, ?_⟩
      have : fpG js gps' fps j = fps j := by unfold fpG; rw [z]
      rw [this]
      refine ow_mono o.ext ow fun q hq => ?_
      cases y : H q with
      | none => exact absurd y (r.off j q hq).2.1
      | some u => exact o.keep q u y fun i => hout j z q hq i
    | some p =>
      obtain ⟨i, b⟩ := p
      have hat := posG_some z
      have hj : j < ds.length := by
        rw [← backG_len js args' ds]; exact (List.getElem?_eq_some_iff.mp hx).1
      rw [backG_in nd hl hj hat] at hx
      cases b with
      | true => cases hx
      | false =>
        have hx' : args'[i]? = some x := by simpa using hx
        obtain ⟨u, hu, ow⟩ := o.ow i _ x ((jo.at hat).2.2 rfl) hx'
        have : fpG js gps' fps j = gps' i := by unfold fpG; rw [z]
        rw [this]
        refine ⟨u, ?_, by rw [← ow_unpm]; exact ow⟩
        rw [bgA_at al hat] at hu
        cases y : σ[j]? with
        | none => rw [y] at hu; cases hu
        | some w => rw [y] at hu; simpa using hu
  · unfold fpG at hq
    split at hq
    · rename_i i hj
      obtain ⟨h1, h2, h3⟩ := hpm hj q hq
      refine ⟨h1, h2, ?_⟩
      rcases h3 with h | h | h
      · exact .inl (r.live q h)
      · exact .inl (off_mv r jo h)
      · exact (r.off j q h).2.2
    · cases hq
    · rename_i hj
      obtain ⟨h1, h2, h3⟩ := r.off j q hq
      refine ⟨?_, fun y => ?_, h3⟩
      · cases z : F' q with
        | none => rfl
        | some u =>
          rcases o.new q u z with h | h | h
          · rw [h1] at h; cases h
          · exact absurd h h2
          · obtain ⟨i, h⟩ := hmv h; exact absurd h (hout j hj q hq i)
      · rcases o.live q y with h | h
        · exact h2 h
        · obtain ⟨i, h⟩ := hmv h; exact absurd h (hout j hj q hq i)
  · unfold fpG
    split
    · exact o.nd _
    · exact List.nodup_nil
    · exact r.nd _
  · unfold fpG at hq hq'
    split at hq
    · rename_i i hj
      split at hq'
      · rename_i i' hl'
        refine o.dj i i' (fun z => ?_) q hq hq'
        subst z
        have := (posG_some hj).symm.trans (posG_some hl')
        simp at this
        exact hjl this
      · cases hq'
      · rename_i hl'; exact hdj hj hl' q hq hq'
    · cases hq
    · rename_i hj
      split at hq'
      · rename_i i' hl'; exact hdj hl' hj q hq' hq
      · cases hq'
      · exact r.dj j l hjl q hq hq'
/-- what a call tells is new -/
theorem callG_new (r : Rel K c O F H σ fps ds) {rk : Kd} {js : JS} {vs : List V} {args' : List D} {v : V} {d : D} {fpv : List Addr} (jo : JOk O ps js) (o : OutR K ps rk F H F' H' vs (gl fps js) gps' args' v d fpv) {q : Addr} (hq : q ∈ fpv) : F' q = none ∧ H' q ≠ none ∧ c.H0 q = none ∧ ∀ i, q ∉ fpG js gps' fps i := by
  obtain ⟨h1, h2, h3, h4⟩ := o.roff q hq
  refine ⟨h1, h2, ?_, fun j hj => ?_⟩
  · rcases h3 with h | h
    · exact r.live q h
    · exact off_mv r jo h
  · unfold fpG at hj
    split at hj
    · rename_i i hp
      refine h4 i ?_ hj
      rw [(jo.at (posG_some hp)).2.2 rfl]; rfl
    · cases hj
    · rename_i hp
      rcases h3 with h | ⟨i, h, _⟩
      · exact (r.off j q hj).2.1 h
      · obtain ⟨j', b, e1, hq'⟩ := gl_mem h
        by_cases z : j = j'
        · subst z; exact posG_none hp e1
        · exact r.dj j j' z q hj hq'
end
def mCallG (f : FD) (js : JS) (ml : M (List D)) : M D := bnd ml fun xs => fun s => match fillG s js xs with
  | some args => match f args with
    | .ok d as => if as.length = js.length then .ok d (backG js as s) else .no
    | _ => .no
  | none => .no
section
variable {K : Fg} {c : Ctx} {O ps : List Kd} {rk : Kd} {js : JS} {tl : TA} {ml : M (List D)} {mg : Str → Option Value} {f : FD} {E : XK}
theorem o_callG (h : DAG K c O js tl ml) (jo : JOk O ps js) (nd : (slG js).Nodup := by decide) : DO K c O rk (tCall (spD K mg f ps rk) [] E tl) (mCallG f js ml) := ⟨fun {F H σ fps ds ds' d} r e Q q => by
  obtain ⟨xs, s1, e1, g1⟩ := bnd_ok e
  split at g1
  · rename_i args ha
    split at g1
    · rename_i d0 as hf
      split at g1
      · rename_i hl
        cases g1
        refine h.run r e1 _ fun F1 H1 fps1 vs sF r1 al => ?_
        rw [List.append_nil]
        refine spD_ok (argR_G r1 jo al ha nd) hf fun F' H' gps' v fpv o => ?_
        exact q F' H' _ v fpv (sF.trans o.ext) (r1.callG jo al ha nd hl o.toOutB) o.res (fun q hq => callG_new r1 jo o hq) o.rnd
      · cases g1
    · cases g1
  · cases g1⟩
end
end Z
set_option Elab.async false
set_option linter.all false
set_option maxRecDepth 100000
namespace Z
open PySem L2
/-! ### tuples of things of one's own -/
def tcs : List Kd → Kd
  | [] => .te
  | k :: r => .tc k (tcs r)
def glo (fps : Nat → List Addr) : Option (Nat × Bool) → List Addr
  | some (j, _) => fps j
  | none => []
def allMv : JS → Bool
  | [] => true
  | some (_, false) :: _ => false
  | _ :: r => allMv r
theorem allMv_at : ∀ {js : JS} {i j : Nat} {b : Bool}, allMv js = true → js[i]? = some (some (j, b)) → b = true
  | [], i, j, b, _, h => by simp at h
  | none :: js, i, j, b, a, h => by
    cases i with
    | zero => simp at h
    | succ i => exact allMv_at (js := js) a (by simpa using h)
  | some (l, false) :: js, i, j, b, a, h => by cases a
  | some (l, true) :: js, i, j, b, a, h => by
    cases i with
    | zero => simp at h; exact h.2
    | succ i => exact allMv_at (js := js) a (by simpa using h)
section
variable {K : Fg} {c : Ctx} {O ks : List Kd} {F H F' H' : Hp} {σ : St} {fps gps' : Nat → List Addr} {ds : DS}
theorem t_of : ∀ {ks : List Kd} {vs : List V} {args : List D} {fs : List (List Addr)}, vs.length = ks.length → args.length = ks.length → fs.length = ks.length →
    (∀ i d, args[i]? = some d → ∃ v, vs[i]? = some v ∧ Ow K F H (ks.getD i .sh) v d (fs.getD i [])) → (Ow2 K F H (tcs ks)).t vs args fs
  | [], [], [], [], _, _, _, _ => ⟨rfl, rfl, rfl⟩
  | k :: ks, v :: vs, a :: as, f :: fs, h1, h2, h3, h => by
    obtain ⟨v', hv, ow⟩ := h 0 a rfl
    cases hv
    refine ⟨v, a, f, vs, as, fs, rfl, rfl, rfl, ow, t_of (by simpa using h1) (by simpa using h2) (by simpa using h3) fun i d hd => ?_⟩
    obtain ⟨w, hw, o⟩ := h (i + 1) d (by simpa using hd)
    exact ⟨w, by simpa using hw, by simpa using o⟩
theorem t_in : ∀ {ks : List Kd} {vs : List V} {args : List D} {fs : List (List Addr)}, (Ow2 K F H (tcs ks)).t vs args fs → vs.length = ks.length ∧ args.length = ks.length ∧ fs.length = ks.length
  | [], _, _, _, ⟨h1, h2, h3⟩ => by subst h1 h2 h3; exact ⟨rfl, rfl, rfl⟩
  | k :: ks, _, _, _, h => by
    obtain ⟨x, d, f, xr, dr, fr, rfl, rfl, rfl, _, h2⟩ := h
    obtain ⟨a, b, c⟩ := t_in h2
    exact ⟨by simp [a], by simp [b], by simp [c]⟩
theorem tcs_ow {ks : List Kd} {v : V} {d : D} {fp : List Addr} : Ow K F H (tcs ks) v d fp = TpO H (Ow2 K F H (tcs ks)).t v d fp := by
  cases ks <;> rfl
theorem glo_gl (js : JS) (i : Nat) : (js.map (glo fps)).getD i [] = gl fps js i := by
  unfold gl
  rw [List.getD_eq_getElem?_getD, List.getElem?_map]
  cases z : js[i]? with
  | none => rfl
  | some o =>
    cases o with
    | none => rfl
    | some p => rfl
theorem glo_mem {js : JS} {q : Addr} (h : q ∈ (js.map (glo fps)).flatten) : ∃ i, q ∈ gl fps js i := by
  obtain ⟨l, hl, hq⟩ := List.mem_flatten.mp h
  obtain ⟨i, hi⟩ := List.mem_iff_getElem?.mp hl
  refine ⟨i, ?_⟩
  rw [← glo_gl, List.getD_eq_getElem?_getD, hi]
  exact hq
theorem glo_nd (r : Rel K c O F H σ fps ds) : ∀ {js : JS}, (slG js).Nodup → (js.map (glo fps)).flatten.Nodup
  | [], _ => by simp
  | none :: js, nd => by
    have := glo_nd r (js := js) (by simpa [slG] using nd)
    simpa [glo] using this
  | some (j, b) :: js, nd => by
    have nd' : j ∉ slG js ∧ (slG js).Nodup := by simpa [slG] using nd
    rw [List.map_cons, List.flatten_cons, List.nodup_append]
    refine ⟨r.nd j, glo_nd r nd'.2, fun q hq q' hq' e => ?_⟩
    subst e
    obtain ⟨i, hi⟩ := glo_mem hq'
    obtain ⟨j', b', e1, hq2⟩ := gl_mem hi
    by_cases z : j = j'
    · subst z; exact nd'.1 (slG_mem e1)
    · exact r.dj j j' z q hq hq2
/-- slots are left -/
theorem Rel.moveG (r : Rel K c O F H σ fps ds) {js : JS} {xs : List D} (nd : (slG js).Nodup) (hl : xs.length = js.length) (am : allMv js = true) : Rel K c O F H σ (fpG js (fun _ => []) fps) (backG js xs ds) := by
  have hin : ∀ j q, q ∈ fpG js (fun _ => []) fps j → q ∈ fps j ∧ posG js j = none := fun j q hq => by
    unfold fpG at hq
    split at hq
    · cases hq
    · cases hq
    · rename_i h; exact ⟨hq, h⟩
  refine ⟨r.sub, r.base, r.keep, r.live, r.new, fun j x hx => ?_, fun j q hq => r.off j q (hin j q hq).1, fun j => ?_, fun j l hjl q hq hq' => r.dj j l hjl q (hin j q hq).1 (hin l q hq').1, r.par, by rw [backG_len]; exact r.len⟩
  · cases z : posG js j with
    | none =>
      rw [backG_out js _ _ j z] at hx
      have : fpG js (fun _ => []) fps j = fps j := by unfold fpG; rw [z]
      rw [this]
      exact r.slots j x hx
    | some p =>
      obtain ⟨i, b⟩ := p
      have hat := posG_some z
      have hj : j < ds.length := by rw [← backG_len js xs ds]; exact (List.getElem?_eq_some_iff.mp hx).1
      rw [backG_in nd hl hj hat, allMv_at am hat] at hx
      cases hx
  · unfold fpG
    split
    · exact List.nodup_nil
    · exact List.nodup_nil
    · exact r.nd j
end
def mTupG (js : JS) (ml : M (List D)) : M D := bnd ml fun xs => fun s => match fillG s js xs with
  | some args => if fits args.length then .ok (.tuple args) (backG js xs s) else .no
  | none => .no
def mLstG (js : JS) (ml : M (List D)) : M D := bnd ml fun xs => fun s => match fillG s js xs with
  | some args => if fits args.length then .ok (.list args) (backG js xs s) else .no
  | none => .no
section
variable {K : Fg} {c : Ctx} {O ks : List Kd} {js : JS} {tl : TA} {ml : M (List D)}
theorem bgA_len {F : Hp} {σ : St} : ∀ {js : JS} {vs : List V} {xs : List D}, BgA K F σ js vs xs → xs.length = js.length
  | _, _, _, .nil => rfl
  | _, _, _, .e _ r => by simp [bgA_len r]
  | _, _, _, .s _ r => by simp [bgA_len r]
theorem o_tupG (h : DAG K c O js tl ml) (jo : JOk O ks js) (am : allMv js = true := by rfl) (nd : (slG js).Nodup := by decide) : DO K c O (tcs ks) (tTup tl) (mTupG js ml) := ⟨fun {F H σ fps ds ds' d} r e Q q => by
  obtain ⟨xs, s1, e1, g1⟩ := bnd_ok e
  split at g1
  · rename_i args ha
    split at g1
    · rename_i hfit
      cases g1
      refine h.run r e1 _ fun F1 H1 fps1 vs sF r1 al => ?_
      obtain ⟨l1, l2, ow⟩ := argG r1 jo al ha
      refine ⟨by rw [l1, ← l2]; exact of_decide_eq_true hfit, fun p hp => ?_⟩
      have rm := r1.moveG nd (bgA_len al) am
      obtain ⟨p1, p2, p3⟩ := r1.fresh hp
      have hfl : ∀ q ∈ (js.map (glo fps1)).flatten, F1 q = none ∧ H1 q ≠ none ∧ c.H0 q = none ∧ ∀ i, q ∉ fpG js (fun _ => []) fps1 i := fun q hq => by
        obtain ⟨i, hi⟩ := glo_mem hq
        obtain ⟨j, b, e2, hq2⟩ := gl_mem hi
        refine ⟨(r1.off j q hq2).1, (r1.off j q hq2).2.1, off_new r1 jo e2 (allMv_at am e2) hq2, fun l hl => ?_⟩
        unfold fpG at hl
        split at hl
        · cases hl
        · cases hl
        · rename_i hn
          by_cases z : l = j
          · subst z; exact posG_none hn e2
          · exact r1.dj l j z q hl hq2
      have hne : ∀ q ∈ (js.map (glo fps1)).flatten, q ≠ p := fun q hq z => by subst z; exact (hfl q hq).2.1 hp
      refine q F1 _ _ _ (p :: (js.map (glo fps1)).flatten) sF (rm.allocO hp _) ?_ (fun q hq => ?_) ?_
      · rw [tcs_ow]
        refine ⟨p, vs, args, js.map (glo fps1), rfl, rfl, upd_same, rfl, t_of l1 l2 (by rw [List.length_map]; exact jo.len) fun i d hd => ?_⟩
        obtain ⟨v, hv, o⟩ := ow i d hd
        rw [glo_gl]
        refine ⟨v, hv, ow_mono (Same.refl _) o fun q hq => upd_ne fun z => ?_⟩
        subst z
        obtain ⟨j, b, e2, hq2⟩ := gl_mem hq
        exact p3 j hq2
      · rcases List.mem_cons.mp hq with rfl | hq
        · exact ⟨p1, by rw [upd_same]; simp, p2, fun i hi => by
            unfold fpG at hi
            split at hi
            · cases hi
            · cases hi
            · exact p3 i hi⟩
        · rw [upd_ne (hne q hq)]
          exact hfl q hq
      · exact List.nodup_cons.mpr ⟨fun z => hne p z rfl, glo_nd r1 nd⟩
    · cases g1
  · cases g1⟩
end
/-! ### a tuple's things given to slots -/
def gNm : List Nat → TGs
  | [] => gNil
  | i :: is => gCons (gName i) (gNm is)
def setsD : List Nat → List D → DS → DS
  | i :: is, d :: r, s => setsD is r (s.set i (some d))
  | _, _, s => s
def setsK : List Nat → List Kd → List Kd → List Kd
  | i :: is, k :: r, O => setsK is r (O.set i k)
  | _, _, O => O
def sAsgT (is : List Nat) (m : M D) : MS := fun s => match m s with
  | .ok (.tuple xs) s' => if xs.length = is.length then .nx (setsD is xs s') else .no
  | _ => .no
section
variable {K : Fg} {c : Ctx} {Ob : List Kd} {F H : Hp}
theorem gNm_ok {Q : St → Hp → Prop} : ∀ {is : List Nat} {ks : List Kd} {O : List Kd} {vs : List V} {xs : List D} {fs : List (List Addr)} {σ : St} {fps : Nat → List Addr} {ds : DS}, Rel K c O F H σ fps ds → (Ow2 K F H (tcs ks)).t vs xs fs → is.length = ks.length →
    (∀ i ∈ is, i < O.length ∧ isPm O[i]? = false) → (∀ k ∈ ks, isPm (some k) = false) → (∀ q ∈ fs.flatten, F q = none ∧ H q ≠ none ∧ c.H0 q = none ∧ ∀ i, q ∉ fps i) → fs.flatten.Nodup →
    (∀ σ' fps', Rel K c (setsK is ks O) F H σ' fps' (setsD is xs ds) → Q σ' H) → gNm is vs σ H Q
  | [], [], O, _, _, _, σ, fps, ds, r, ⟨h1, h2, h3⟩, _, _, _, _, _, q => by
    subst h1 h2 h3
    exact ⟨rfl, q σ fps r⟩
  | i :: is, k :: ks, O, _, _, _, σ, fps, ds, r, h, hl, hi, hk, hf, nd, q => by
    obtain ⟨x, d, f, xr, dr, fr, rfl, rfl, rfl, h1, h2⟩ := h
    rw [List.flatten_cons] at nd hf
    obtain ⟨nd1, nd2, nd3⟩ := List.nodup_append.mp nd
    obtain ⟨hi1, hi2⟩ := hi i (by simp)
    have r1 := r.put hi1 hi2 h1 (fun q hq => by
      obtain ⟨a, b, cc, dd⟩ := hf q (List.mem_append_left _ hq)
      exact ⟨a, b, cc, fun j _ => dd j⟩) nd1
    refine ⟨x, xr, rfl, gNm_ok r1 h2 (by simpa using hl) (fun j hj => ?_) (fun k' hk' => hk k' (by simp [hk'])) (fun q hq => ?_) nd2 q⟩
    · obtain ⟨a, b⟩ := hi j (by simp [hj])
      refine ⟨by rw [List.length_set]; exact a, ?_⟩
      by_cases z : j = i
      · subst z; rw [List.getElem?_set_self a]; exact hk k (by simp)
      · rw [List.getElem?_set_ne (Ne.symm z)]; exact b
    · obtain ⟨a, b, cc, dd⟩ := hf q (List.mem_append_right _ hq)
      refine ⟨a, b, cc, fun j hj => ?_⟩
      by_cases z : j = i
      · simp only [if_pos z] at hj; exact nd3 q hj q hq rfl
      · simp only [if_neg z] at hj; exact dd j hj
theorem c_asgT {O : List Kd} {te : TE} {m : M D} {n : Nat} (is : List Nat) {ks : List Kd} (h : DO K c O (tcs ks) te m) (hn : n = is.length) (hl : is.length = ks.length := by rfl) (hi : ∀ i ∈ is, i < O.length ∧ isPm O[i]? = false) (hk : ∀ k ∈ ks, isPm (some k) = false) : DC K c Ob O (tAsg te (gTup K n (gNm is))) (sAsgT is m) (setsK is ks O) := ⟨fun {F H σ fps ds} r E p => by
  unfold sAsgT at p
  cases e : m ds with
  | no => rw [e] at p; exact p.elim
  | ok d s' =>
    rw [e] at p
    refine h.run r e _ fun F1 H1 fps1 w fpv s1 r1 ow hf nd => ?_
    rw [tcs_ow] at ow
    obtain ⟨a, xs, es, fs, rfl, rfl, ha, rfl, ht⟩ := ow
    dsimp only at p
    by_cases hz : es.length = is.length
    · rw [if_pos hz] at p
      obtain ⟨l1, l2, l3⟩ := t_in ht
      refine ⟨a, xs, rfl, .inl (.inl ha), by rw [l1, ← hl, hn], gNm_ok r1 ht hl hi hk (fun q hq => hf q (List.mem_cons_of_mem _ hq)) (List.nodup_cons.mp nd).2 fun σ2 fps2 r2 => p F1 H1 σ2 fps2 s1 r2⟩
    · rw [if_neg hz] at p; exact p.elim⟩
/-- return x, x a thing of one's own, a parameter handed over, too -/
def sRetM (i : Nat) : MS := fun s => match s[i]? with
  | some (some d) => .rt d (s.set i (some .none))
  | _ => .no
theorem c_retM {O O' : List Kd} (i : Nat) (hk : c.rk = O.getD i .sh) (hi : i < O.length := by first | decide | exact of_decide_eq_true rfl) (hp : isPm O[i]? = false := by rfl) : DC K c Ob O (tRet (tVar i)) (sRetM i) O' := ⟨fun {F H σ fps ds} r E p => by
  unfold sRetM at p
  cases z : ds[i]? with
  | none => rw [z] at p; exact p.elim
  | some o =>
    cases o with
    | none => rw [z] at p; exact p.elim
    | some d =>
      rw [z] at p
      obtain ⟨v, hv, ow⟩ := r.slots i d z
      have r2 := r.put hi hp (k := .sh) (v := .non) (d := .none) (fpv := []) ⟨rfl, .non⟩ (fun q hq => absurd hq (by simp)) (by simp)
      refine ⟨v, hv, p F H _ _ _ v (fps i) (Same.refl _) r2 (by rw [hk]; exact ow) (fun q hq => ?_) (r.nd i)⟩
      obtain ⟨h1, h2, h3⟩ := r.off i q hq
      refine ⟨h1, h2, ?_, fun j hj hq' => ?_⟩
      · rcases h3 with h3 | ⟨_, h3⟩
        · exact h3
        · rw [hp] at h3; cases h3
      · by_cases y : j = i
        · simp only [if_pos y] at hq'; cases hq'
        · simp only [if_neg y] at hq'; exact r.dj j i y q hq' hq⟩
end
/-! ### what these come to -/
section
variable {s : DS} {Nx Bk Ct : DS → Prop} {Ex : Xc → DS → Prop} {Rt : D → DS → Prop}
theorem ev_at_0 {j : Nat} {Q : D → DS → Prop} : Ev0 (mAt j) s Q = So0 (look s j) fun _ => Q .none s := by
  unfold Ev0 mAt look
  cases s[j]? with
  | none => rfl
  | some o => cases o <;> rfl
theorem ev_at {j : Nat} {Q : D → DS → Prop} : Ev (mAt j) s Q = So (look s j) fun _ => Q .none s := by with_unfolding_all exact ev_at_0
theorem xv_callG_0 {f : FD} {js : JS} {a : M (List D)} {Q : D → DS → Prop} : Ev0 (mCallG f js a) s Q = Ev0 a s fun xs s' => So0 (fillG s' js xs) fun args => Cl0 f args fun d as => as.length = js.length ∧ Q d (backG js as s') := by
  unfold mCallG; rw [ev_bnd_0]; refine ev_ext_0 fun xs s' => ?_
  dsimp only [Ev0]
  cases fillG s' js xs with
  | none => rfl
  | some args =>
    dsimp only [So0, Cl0]
    cases f args with
    | no => simp
    | ex x as => simp
    | ok d as =>
      refine propext ⟨fun h => ?_, fun ⟨d1, as1, e, h1, h2⟩ => ?_⟩
      · dsimp only at h
        by_cases z : as.length = js.length
        · rw [if_pos z] at h; exact ⟨d, as, rfl, z, h⟩
        · rw [if_neg z] at h; exact h.elim
      · cases e
        dsimp only
        rw [if_pos h1]; exact h2
theorem xv_callG {f : FD} {js : JS} {a : M (List D)} {Q : D → DS → Prop} : Ev (mCallG f js a) s Q = Ev a s fun xs s' => So (fillG s' js xs) fun args => Cl f args fun d as => as.length = js.length ∧ Q d (backG js as s') := by with_unfolding_all exact xv_callG_0
theorem xv_tupG_0 {js : JS} {a : M (List D)} {Q : D → DS → Prop} : Ev0 (mTupG js a) s Q = Ev0 a s fun xs s' => So0 (fillG s' js xs) fun args => fits args.length = true ∧ Q (.tuple args) (backG js xs s') := by
  unfold mTupG; rw [ev_bnd_0]; refine ev_ext_0 fun xs s' => ?_
  dsimp only [Ev0]
  cases fillG s' js xs with
  | none => rfl
  | some args =>
    dsimp only [So0]
    cases z : fits args.length <;> simp
theorem xv_tupG {js : JS} {a : M (List D)} {Q : D → DS → Prop} : Ev (mTupG js a) s Q = Ev a s fun xs s' => So (fillG s' js xs) fun args => fits args.length = true ∧ Q (.tuple args) (backG js xs s') := by with_unfolding_all exact xv_tupG_0
def tof : D → Option (List D)
  | .tuple xs => some xs
  | _ => none
theorem so_tof {xs : List D} {Q : List D → Prop} : So (tof (.tuple xs)) Q = Q xs := by with_unfolding_all rfl
theorem run_asgT_0 {is : List Nat} {m : M D} : Run0 (sAsgT is m) s Nx Rt Bk Ct Ex = Ev0 m s fun d s' => So0 (tof d) fun xs => xs.length = is.length ∧ Nx (setsD is xs s') := by
  unfold Run0 sAsgT Ev0
  cases m s with
  | no => rfl
  | ok d s' =>
    cases d with
    | tuple xs =>
      dsimp only [tof, So0]
      by_cases h : xs.length = is.length
      · rw [if_pos h]; simp [h]
      · rw [if_neg h]; simp [h]
    | _ => rfl
theorem run_asgT {is : List Nat} {m : M D} : Run (sAsgT is m) s Nx Rt Bk Ct Ex = Ev m s fun d s' => So (tof d) fun xs => xs.length = is.length ∧ Nx (setsD is xs s') := by with_unfolding_all exact run_asgT_0
theorem run_retM_0 {i : Nat} : Run0 (sRetM i) s Nx Rt Bk Ct Ex = So0 (look s i) fun d => Rt d (s.set i (some .none)) := by
  unfold Run0 sRetM look
  cases s[i]? with
  | none => rfl
  | some o => cases o <;> rfl
theorem run_retM {i : Nat} : Run (sRetM i) s Nx Rt Bk Ct Ex = So (look s i) fun d => Rt d (s.set i (some .none)) := by with_unfolding_all exact run_retM_0
theorem so_fillN {Q : List D → Prop} : So (fillG s [] []) Q = Q [] := by with_unfolding_all rfl
theorem so_fillE_0 {js : JS} {x : D} {xs : List D} {Q : List D → Prop} : So0 (fillG s (none :: js) (x :: xs)) Q = So0 (fillG s js xs) fun r => Q (x :: r) := by
  show So0 (match fillG s js xs with | some r => some (x :: r) | none => none) Q = _
  cases fillG s js xs <;> rfl
theorem so_fillE {js : JS} {x : D} {xs : List D} {Q : List D → Prop} : So (fillG s (none :: js) (x :: xs)) Q = So (fillG s js xs) fun r => Q (x :: r) := by with_unfolding_all exact so_fillE_0
theorem so_fillS_0 {js : JS} {j : Nat} {b : Bool} {x : D} {xs : List D} {Q : List D → Prop} : So0 (fillG s (some (j, b) :: js) (x :: xs)) Q = So0 (look s j) fun d => So0 (fillG s js xs) fun r => Q (d :: r) := by
  show So0 (match look s j with | some d => (match fillG s js xs with | some r => some (d :: r) | none => none) | none => none) Q = _
  cases look s j with
  | none => rfl
  | some d => cases fillG s js xs <;> rfl
theorem so_fillS {js : JS} {j : Nat} {b : Bool} {x : D} {xs : List D} {Q : List D → Prop} : So (fillG s (some (j, b) :: js) (x :: xs)) Q = So (look s j) fun d => So (fillG s js xs) fun r => Q (d :: r) := by with_unfolding_all exact so_fillS_0
theorem bkG0 : backG [] [] s = s := nr rfl
theorem bkGE {js : JS} {a : D} {as : List D} : backG (none :: js) (a :: as) s = backG js as s := nr rfl
theorem bkGF {js : JS} {j : Nat} {a : D} {as : List D} : backG (some (j, false) :: js) (a :: as) s = backG js as (s.set j (some a)) := nr rfl
theorem bkGT {js : JS} {j : Nat} {a : D} {as : List D} : backG (some (j, true) :: js) (a :: as) s = backG js as (s.set j none) := nr rfl
theorem stD0 {xs : List D} : setsD [] xs s = s := nr rfl
theorem stDC {i : Nat} {is : List Nat} {d : D} {xs : List D} : setsD (i :: is) (d :: xs) s = setsD is xs (s.set i (some d)) := nr rfl
end
end Z
set_option Elab.async false
set_option linter.all false
set_option maxRecDepth 100000
namespace Z
open PySem L2
/-! ### objects of one's own -/
def clsOf : Kd → List (Str × Addr)
  | .oe cs => cs
  | .of _ _ r => clsOf r
  | _ => []
theorem clsOf_eq {K : Fg} {F H : Hp} : ∀ {k : Kd}, (Ow2 K F H k).c = clsOf k := fun {k} => by
  induction k with
  | oe cs => rfl
  | of f k r _ ih => exact ih
  | _ => rfl
theorem isOb_cls : ∀ {k : Kd}, isOb k = true → clsOf k ≠ []
  | .oe cs, h => by
    intro z
    have z : cs = [] := z
    subst z
    cases h
  | .of _ _ r, h => isOb_cls (k := r) h
theorem ob_ow {K : Fg} {F H : Hp} {k : Kd} {v : V} {d : D} {fp : List Addr} (h : isOb (unpm k) = true) (o : Ow K F H k v d fp) :
    ∃ p C dx cls fs ds gs, v = .ref p ∧ d = .dict ((.none, .str cls) :: ds) ∧ H p = some (.ins C dx fs) ∧ H dx = some (.own p) ∧ (clsOf (unpm k)).lookup cls = some C ∧ fp = p :: dx :: gs.flatten ∧ FlO (fun f => Ow K F H (fkOf (unpm k) f)) fs ds gs := by
  rw [← ow_unpm] at o
  obtain ⟨h1, h2⟩ := ob_of (K := K) (F := F) (H := H) (isSt_ob h)
  have o' : (Ow2 K F H (unpm k)).a v d fp := o
  rw [h2] at o'
  rcases o' with ⟨p, C, dx, cls, fs, ds, gs, e1, e2, e3, e4, e5, e6, e7⟩ | ⟨z, _⟩
  case inr => rw [clsOf_eq] at z; exact absurd z (isOb_cls h)
  rw [clsOf_eq] at e5
  have : (Ow2 K F H (unpm k)).f = fun f => Ow K F H (fkOf (unpm k) f) := funext h1
  rw [this] at e7
  exact ⟨p, C, dx, cls, fs, ds, gs, e1, e2, e3, e4, e5, e6, e7⟩
theorem ow_ob {K : Fg} {F H : Hp} {k : Kd} {p C dx : Addr} {cls : Str} {fs : List (Str × V)} {ds : List (D × D)} {gs : List (List Addr)} (h : isOb (unpm k) = true) (e3 : H p = some (.ins C dx fs)) (e4 : H dx = some (.own p)) (e5 : (clsOf (unpm k)).lookup cls = some C)
    (e7 : FlO (fun f => Ow K F H (fkOf (unpm k) f)) fs ds gs) : Ow K F H k (.ref p) (.dict ((.none, .str cls) :: ds)) (p :: dx :: gs.flatten) := by
  rw [← ow_unpm]
  obtain ⟨h1, h2⟩ := ob_of (K := K) (F := F) (H := H) (isSt_ob h)
  show (Ow2 K F H (unpm k)).a _ _ _
  rw [h2]
  have : (Ow2 K F H (unpm k)).f = fun f => Ow K F H (fkOf (unpm k) f) := funext h1
  rw [this]
  exact .inl ⟨p, C, dx, cls, fs, ds, gs, rfl, rfl, e3, e4, by rw [clsOf_eq]; exact e5, rfl, e7⟩
def putDF (f : Str) (x : D) : List (D × D) → List (D × D)
  | [] => [(.str f, x)]
  | (.str g, d) :: r => if g = f then (.str g, x) :: r else (.str g, d) :: putDF f x r
  | e :: r => e :: putDF f x r
theorem FlO.len {R : Str → OwR} : ∀ {vs : List (Str × V)} {ds : List (D × D)} {fs : List (List Addr)}, FlO R vs ds fs → vs.length = ds.length
  | _, _, _, .nil => rfl
  | _, _, _, .cons _ r => by simp [r.len]
theorem FlO.none {R : Str → OwR} {f : Str} : ∀ {vs : List (Str × V)} {ds : List (D × D)} {fs : List (List Addr)}, FlO R vs ds fs → fldD f ds = none → vs.lookup f = none
  | _, _, _, .nil, _ => rfl
  | _, _, _, .cons (f := g) (v := v) h r, e => by
    unfold fldD at e
    by_cases z : f = g
    · rw [if_pos z] at e; cases e
    · rw [if_neg z] at e
      rw [List.lookup_cons]
      have : (f == g) = false := by simpa using z
      rw [this]
      exact r.none e
theorem FlO.imp2 {R R' : Str → OwR} : ∀ {vs : List (Str × V)} {ds : List (D × D)} {fs : List (List Addr)}, FlO R vs ds fs → (∀ f v d fp, fp ∈ fs → R f v d fp → R' f v d fp) → FlO R' vs ds fs
  | _, _, _, .nil, _ => .nil
  | _, _, _, .cons h r, g => .cons (g _ _ _ _ (by simp) h) (r.imp2 fun f v d fp hm => g f v d fp (by simp [hm]))
theorem FlO.put {R : Str → OwR} {f : Str} {v : V} {x : D} (hv : R f v x []) (hR : ∀ v d fp, R f v d fp → fp = []) : ∀ {vs : List (Str × V)} {ds : List (D × D)} {fs : List (List Addr)}, FlO R vs ds fs → ∃ fs', FlO R (putF f v vs) (putDF f x ds) fs' ∧ fs'.flatten = fs.flatten
  | _, _, _, .nil => ⟨[[]], .cons hv .nil, rfl⟩
  | _, _, _, .cons (f := g) (v := w) (d := d) (fp := fp) (vs := vs) (ds := ds) (fs := fs) h r => by
    by_cases z : g = f
    · subst z
      have e1 : putF g v ((g, w) :: vs) = (g, v) :: vs := if_pos rfl
      have e2 : putDF g x ((.str g, d) :: ds) = (.str g, x) :: ds := if_pos rfl
      rw [e1, e2]
      refine ⟨[] :: fs, .cons hv r, ?_⟩
      rw [hR _ _ _ h]
    · have e1 : putF f v ((g, w) :: vs) = (g, w) :: putF f v vs := if_neg z
      have e2 : putDF f x ((.str g, d) :: ds) = (.str g, d) :: putDF f x ds := if_neg z
      rw [e1, e2]
      obtain ⟨fs', h1, h2⟩ := FlO.put hv hR r
      exact ⟨fp :: fs', .cons h h1, by rw [List.flatten_cons, List.flatten_cons, h2]⟩
def dof : D → Option (List (D × D))
  | .dict l => some l
  | _ => none
/-- x.f -/
def mFld (i : Nat) (f : Str) : M D := fun s => match look s i with
  | some d => match dof d with
    | some l => opt (fldD f l) s
    | none => .no
  | none => .no
/-- x.f = e -/
def sFldD (i : Nat) (f : Str) (m : M D) : MS := fun s => match m s with
  | .ok x s1 => match look s1 i with
    | some d => match dof d with
      | some l => if decide (l.length ≤ 1000) then .nx (s1.set i (some (.dict (putDF f x l)))) else .no
      | none => .no
    | none => .no
  | .no => .no
section
variable {K : Fg} {c : Ctx} {O Ob : List Kd} {te : TE} {m : M D}
theorem d_fld (i : Nat) (f : Str) (hob : isOb (unpm (O.getD i .sh)) = true) (hf : fkOf (unpm (O.getD i .sh)) f = .sh) (hc : ∀ cls C, (clsOf (unpm (O.getD i .sh))).lookup cls = some C → Cls K C ∧ NoAttr K C f) : DE K c O (tFld K (tVar i) f) (mFld i f) := ⟨fun {F H σ fps ds ds' d} r e Q q => by
  unfold mFld at e
  split at e
  · rename_i d0 hd0
    split at e
    · rename_i l hl
      obtain ⟨e1, e2⟩ := opt_ok e
      subst e2
      obtain ⟨v, hv, ow⟩ := r.slots i d0 (look_some hd0)
      obtain ⟨p, C, dx, cls, fs, es, gs, rfl, rfl, hp, hdx, hcls, hfp, al⟩ := ob_ow hob ow
      cases hl
      have e1' : fldD f es = some d := e1
      obtain ⟨va, u, vb, da, db, fa, fn, fb, rfl, rfl, rfl, h1, h2, h3, h4⟩ := al.split e1'
      have h2' : Ow K F H (fkOf (unpm (O.getD i .sh)) f) u d fn := h2
      rw [hf] at h2'
      obtain ⟨c1, c2⟩ := hc cls C hcls
      exact ⟨_, hv, p, C, dx, _, u, rfl, hp, c1, c2, lookup_split h4, q F H fps u (Same.refl _) r h2'.2⟩
    · cases e
  · cases e⟩
theorem c_fld (i : Nat) (f : Str) (h : DE K c O te m) (hob : isOb (unpm (O.getD i .sh)) = true) (hf : fkOf (unpm (O.getD i .sh)) f = .sh) (hc : ∀ cls C, (clsOf (unpm (O.getD i .sh))).lookup cls = some C → Cls K C ∧ NoAttr K C f) : DC K c Ob O (sFld K (tVar i) te f) (sFldD i f m) O := ⟨fun {F H σ fps ds} r E p => by
  unfold sFldD at p
  cases e : m ds with
  | no => rw [e] at p; exact p.elim
  | ok x s1 =>
    rw [e] at p
    dsimp only at p
    refine h.run r e _ fun F1 H1 fps1 y sF r1 dp => ?_
    split at p
    · rename_i d0 hd0
      split at p
      · rename_i l hl
        split at p
        · rename_i hz
          have hz' := of_decide_eq_true hz
          obtain ⟨v, hv, ow⟩ := r1.slots i d0 (look_some hd0)
          obtain ⟨a, C, dx, cls, fs, es, gs, rfl, rfl, hp, hdx, hcls, hfp, al⟩ := ob_ow hob ow
          cases hl
          obtain ⟨c1, c2⟩ := hc cls C hcls
          refine ⟨_, hv, a, C, dx, fs, rfl, hp, c1, c2, by rw [al.len]; have := hz'; rw [List.length_cons] at this; omega, ?_⟩
          have nd := r1.nd i
          rw [hfp] at nd
          obtain ⟨nd1, nd2⟩ := List.nodup_cons.mp nd
          obtain ⟨nd3, nd4⟩ := List.nodup_cons.mp nd2
          have hin : ∀ q, q ∈ a :: dx :: gs.flatten → q ∈ fps1 i := fun q hq => by rw [hfp]; exact hq
          have hoff := fun q hq => r1.off i q (hin q hq)
          have r2 := r1.aside i
          have hna : ∀ q ∈ a :: dx :: gs.flatten, ∀ j, j ≠ i → q ∉ fps1 j := fun q hq j hj hq' => r1.dj j i hj q hq' (hin q hq)
          have hna' : ∀ q ∈ a :: dx :: gs.flatten, ∀ j, q ∉ (if j = i then [] else fps1 j) := fun q hq j hj => by
            by_cases z : j = i
            · rw [if_pos z] at hj; cases hj
            · rw [if_neg z] at hj; exact hna q hq j z hj
          have r3 := r2.updP (p := a) (hoff a (by simp)).1 ((hoff a (by simp)).2.2.imp id fun z => ⟨_, z.1⟩) (hna' a (by simp)) (.ins C dx (putF f y fs))
          have al2 : FlO (fun g => Ow K F1 (upd H1 a (.ins C dx (putF f y fs))) (fkOf (unpm (O.getD i .sh)) g)) fs es gs := al.imp2 fun g v d fp hm o => ow_mono (Same.refl _) o fun q hq => upd_ne fun z => by
            subst z
            exact nd1 (List.mem_cons_of_mem _ (List.mem_flatten.mpr ⟨fp, hm, hq⟩))
          obtain ⟨gs', al3, efl⟩ := FlO.put (f := f) (v := y) (x := x) (by show Ow K F1 _ (fkOf (unpm (O.getD i .sh)) f) y x []; rw [hf]; exact ⟨rfl, dp⟩) (fun v d fp (o : Ow K F1 _ (fkOf (unpm (O.getD i .sh)) f) v d fp) => by rw [hf] at o; exact o.1) al2
          have hdxa : dx ≠ a := fun z => nd1 (by rw [z]; exact List.mem_cons_self)
          have ow4 := ow_ob (k := O.getD i .sh) (cls := cls) hob (upd_same) (by rw [upd_ne hdxa]; exact hdx) hcls al3
          rw [efl] at ow4
          have hl' : i < s1.length := (List.getElem?_eq_some_iff.mp (look_some hd0)).1
          have r4 := r3.again hv ow4 (fun q hq => by
            obtain ⟨h1, h2, h3⟩ := hoff q hq
            refine ⟨h1, ?_, h3, fun j hj => by simp only [if_neg hj]; exact hna q hq j hj⟩
            by_cases z : q = a
            · rw [z, upd_same]; simp
            · rw [upd_ne z]; exact h2) nd
          rw [List.set_set] at r4
          exact p F1 _ σ _ sF r4
        · exact p.elim
      · exact p.elim
    · exact p.elim⟩
end
/-! ### methods, making -/
def noFd (m : Str) (d : D) : Option Unit := match dof d with
  | some l => match fldD m l with
    | none => some ()
    | some _ => none
  | none => none
def mMeth (f : FD) (m : Str) (n j : Nat) (ml : M (List D)) : M D := fun s => match look s j with
  | some e => match noFd m e with
    | some _ => mCall1 f n j ml s
    | none => .no
  | none => .no
def mMake (f : FD) (cls : Str) (n : Nat) (ml : M (List D)) : M D := bnd ml fun xs => fun s => if xs.length = n then (match f (.dict [(.none, .str cls)] :: xs) with
  | .ok .none (e' :: _) => .ok e' s
  | _ => .no) else .no
section
variable {K : Fg} {c : Ctx} {O ps : List Kd} {rk k : Kd} {tl : TA} {ml : M (List D)} {mg : Str → Option Value} {f : FD} {E : XK}
theorem o_meth (j : Nat) {C : Addr} {m cls : Str} (h : DA K c O tl ml) (hk : O.getD j .sh = k ∨ O.getD j .sh = .pm k) (hob : isOb k = true) (hc : clsOf k = [(cls, C)]) (hs : ps.all (· == .sh) = true := by rfl) : DO K c O rk (tMeth C m (spD K mg f (.pm k :: ps) rk) [] E (tVar j) tl) (mMeth f m ps.length j ml) := ⟨fun {F H σ fps ds ds' d} r e Q q => by
  unfold mMeth at e
  split at e
  · rename_i e0 he0
    split at e
    · rename_i u hn
      obtain ⟨w, hw, rest⟩ := (o_call1 (rk := rk) (mg := mg) (f := f) (E := E) j h hk hs).run r e Q q
      obtain ⟨w', hw', ow⟩ := r.slots j e0 (look_some he0)
      rw [hw] at hw'
      cases hw'
      have hu : unpm (O.getD j .sh) = k := by
        rcases hk with h | h
        · rw [h]; cases k <;> first | rfl | cases hob
        · rw [h]; rfl
      obtain ⟨a, C', dx, cls', fs, es, gs, rfl, rfl, hp, hdx, hcls, hfp, al⟩ := ob_ow (by rw [hu]; exact hob) ow
      rw [hu, hc] at hcls
      have hC : C' = C := by
        rw [List.lookup_cons] at hcls
        split at hcls
        · exact (Option.some.inj hcls).symm
        · cases hcls
      subst hC
      have hl : fldD m es = none := by
        unfold noFd at hn
        dsimp only [dof] at hn
        have : fldD m ((PyData.none, PyData.str cls') :: es) = fldD m es := rfl
        rw [this] at hn
        cases z : fldD m es with
        | none => rfl
        | some y => rw [z] at hn; cases hn
      exact ⟨_, hw, a, dx, fs, rfl, hp, al.none hl, rest⟩
    · cases e
  · cases e⟩
theorem o_make {C : Addr} {cls : Str} (h : DA K c O tl ml) (hob : isOb k = true) (hc : clsOf k = [(cls, C)]) (hs : ps.all (· == .sh) = true := by rfl) : DO K c O k (tMake C (spD K mg f (.pm k :: ps) .sh) [] E tl) (mMake f cls ps.length ml) := ⟨fun {F H σ fps ds ds' d} r e Q q => by
  obtain ⟨xs, s1, e1, g1⟩ := bnd_ok e
  split at g1
  · rename_i hl
    split at g1
    · rename_i e' as hff
      cases g1
      refine h.run r e1 _ fun F1 H1 fps1 vs sF r1 al => fun x dx hx hdx hne => ?_
      rw [List.append_nil]
      have ra := r1.allocO hdx (.own x)
      have hx' : upd H1 dx (.own x) x = none := by rw [upd_ne (Ne.symm hne)]; exact hx
      have rb := ra.allocO hx' (.ins C dx [])
      obtain ⟨f1, f2, f3⟩ := r1.fresh hx
      obtain ⟨g1, g2, g3⟩ := r1.fresh hdx
      have hf : ∀ q ∈ [x, dx], F1 q = none ∧ upd (upd H1 dx (.own x)) x (.ins C dx []) q ≠ none ∧ c.H0 q = none ∧ ∀ i, q ∉ fps1 i := fun q hq => by
        rcases List.mem_cons.mp hq with rfl | hq
        · exact ⟨f1, by rw [upd_same]; simp, f2, f3⟩
        · have : q = dx := by simpa using hq
          subst this
          exact ⟨g1, by rw [upd_ne hne, upd_same]; simp, g2, g3⟩
      have hup : unpm k = k := by cases k <;> first | rfl | cases hob
      have ow : Ow K F1 (upd (upd H1 dx (.own x)) x (.ins C dx [])) k (.ref x) (.dict [(.none, .str cls)]) [x, dx] :=
        ow_ob (k := k) (fs := []) (ds := []) (gs := []) (by rw [hup]; exact hob) upd_same (by rw [upd_ne hne, upd_same]) (by rw [hup, hc]; simp) .nil
      refine spD_ok (args_o hs rb.sub al hl ow (fun q hq => ⟨(hf q hq).1, (hf q hq).2.1⟩) (by simp [Ne.symm hne])) hff fun F' H' gps' v fpv o => ?_
      have hkp : ∀ b u, upd (upd H1 dx (.own x)) x (.ins C dx []) b = some u → b ∉ [x, dx] → H' b = some u := fun b u e hn => o.keep b u e (fun i => by
        by_cases z : i = 0
        · simp only [z, if_pos]; exact hn
        · simp only [if_neg z]; simp)
      have r3 : Rel K c O F' H' σ fps1 ds' := by
        refine ⟨o.sub, rb.base.trans o.ext, fun b u e n => ?_, fun b e => rb.live b (o.live0 mv_one b e), fun b u e => ?_, fun i x' hx => ?_, fun i q hq => ?_, rb.nd, rb.dj, rb.par, rb.len⟩
        · refine hkp b u (rb.keep b u e n) fun hb => ?_
          rw [(hf b hb).2.2.1] at e; cases e
        · rcases o.new0 mv_one b u e with h | h
          · exact rb.new b u h
          · exact .inr (rb.live b h)
        · obtain ⟨u, hu, ow⟩ := rb.slots i x' hx
          refine ⟨u, hu, ow_mono o.ext ow fun q hq => ?_⟩
          cases y : upd (upd H1 dx (.own x)) x (.ins C dx []) q with
          | none => exact absurd y (rb.off i q hq).2.1
          | some u => exact hkp q u y fun hb => (hf q hb).2.2.2 i hq
        · obtain ⟨h1, h2, h3⟩ := rb.off i q hq
          refine ⟨?_, fun y => h2 (o.live0 mv_one q y), h3⟩
          cases z : F' q with
          | none => rfl
          | some u =>
            rcases o.new0 mv_one q u z with h | h
            · rw [h1] at h; cases h
            · exact absurd h h2
      obtain ⟨hfp, hv⟩ := o.res
      cases hv
      refine ⟨rfl, ?_⟩
      obtain ⟨u, hu, ow4⟩ := o.ow 0 k d rfl rfl
      cases hu
      refine q F' H' fps1 _ (gps' 0) (sF.trans o.ext) r3 ow4 (fun q hq => ?_) (o.nd 0)
      obtain ⟨h1, h2, h3⟩ := o.off 0 q rfl hq
      have h3' : upd (upd H1 dx (.own x)) x (.ins C dx []) q = none ∨ q ∈ [x, dx] := by
        rcases h3 with h | h | h
        · exact .inl h
        · exact absurd h (mv_one q)
        · simp only [if_pos] at h; exact .inr h
      refine ⟨h1, h2, ?_, fun i hi => ?_⟩
      · rcases h3' with h | h
        · exact rb.live q h
        · exact (hf q h).2.2.1
      · rcases h3' with h | h
        · exact (rb.off i q hi).2.1 h
        · exact (hf q h).2.2.2 i hi
    · cases g1
  · cases g1⟩
end
/-! ### what these come to -/
section
variable {s : DS} {Nx Bk Ct : DS → Prop} {Ex : Xc → DS → Prop} {Rt : D → DS → Prop}
theorem ev_fld_0 {i : Nat} {f : Str} {Q : D → DS → Prop} : Ev0 (mFld i f) s Q = So0 (look s i) fun d => So0 (dof d) fun l => So0 (fldD f l) fun x => Q x s := by
  unfold Ev0 mFld
  cases look s i with
  | none => rfl
  | some d =>
    dsimp only [So0]
    cases dof d with
    | none => rfl
    | some l =>
      dsimp only [opt]
      cases fldD f l <;> rfl
theorem ev_fld {i : Nat} {f : Str} {Q : D → DS → Prop} : Ev (mFld i f) s Q = So (look s i) fun d => So (dof d) fun l => So (fldD f l) fun x => Q x s := by with_unfolding_all exact ev_fld_0
theorem run_fld_0 {i : Nat} {f : Str} {m : M D} : Run0 (sFldD i f m) s Nx Rt Bk Ct Ex = Ev0 m s fun x s1 => So0 (look s1 i) fun d => So0 (dof d) fun l => decide (l.length ≤ 1000) = true ∧ Nx (s1.set i (some (.dict (putDF f x l)))) := by
  unfold Run0 sFldD Ev0
  cases m s with
  | no => rfl
  | ok x s1 =>
    dsimp only
    cases look s1 i with
    | none => rfl
    | some d =>
      dsimp only [So0]
      cases dof d with
      | none => rfl
      | some l =>
        dsimp only
        cases z : decide (l.length ≤ 1000) <;> simp
theorem run_fld {i : Nat} {f : Str} {m : M D} : Run (sFldD i f m) s Nx Rt Bk Ct Ex = Ev m s fun x s1 => So (look s1 i) fun d => So (dof d) fun l => decide (l.length ≤ 1000) = true ∧ Nx (s1.set i (some (.dict (putDF f x l)))) := by with_unfolding_all exact run_fld_0
theorem xv_meth_0 {f : FD} {m : Str} {n j : Nat} {a : M (List D)} {Q : D → DS → Prop} : Ev0 (mMeth f m n j a) s Q = So0 (look s j) fun e => So0 (noFd m e) fun _ => Ev0 (mCall1 f n j a) s Q := by
  unfold Ev0 mMeth
  cases look s j with
  | none => rfl
  | some e =>
    dsimp only [So0]
    cases noFd m e <;> rfl
theorem xv_meth {f : FD} {m : Str} {n j : Nat} {a : M (List D)} {Q : D → DS → Prop} : Ev (mMeth f m n j a) s Q = So (look s j) fun e => So (noFd m e) fun _ => Ev (mCall1 f n j a) s Q := by with_unfolding_all exact xv_meth_0
def nonO : D → Option Unit
  | .none => some ()
  | _ => none
theorem so_nonO {Q : Unit → Prop} : So (nonO .none) Q = Q () := by with_unfolding_all rfl
theorem xv_make_0 {f : FD} {cls : Str} {n : Nat} {a : M (List D)} {Q : D → DS → Prop} : Ev0 (mMake f cls n a) s Q = Ev0 a s fun xs s' => xs.length = n ∧ Cl0 f (.dict [(.none, .str cls)] :: xs) fun d as => So0 (nonO d) fun _ => So0 (hdO as) fun e' => Q e' s' := by
  unfold mMake; rw [ev_bnd_0]; refine ev_ext_0 fun xs s' => ?_
  dsimp only [Ev0]
  by_cases h : xs.length = n
  · rw [if_pos h]
    refine propext ⟨fun z => ?_, fun z => ?_⟩
    · cases e : f (.dict [(.none, .str cls)] :: xs) with
      | no => rw [e] at z; exact z.elim
      | ex x as => rw [e] at z; exact z.elim
      | ok d as =>
        rw [e] at z
        cases d with
        | none =>
          cases as with
          | nil => exact z.elim
          | cons e' as => exact ⟨h, _, _, e, z⟩
        | _ => exact z.elim
    · obtain ⟨_, d, as, e, z⟩ := z
      rw [e]
      cases d with
      | none =>
        cases as with
        | nil => exact z.elim
        | cons e' as => exact z
      | _ => exact z.elim
  · rw [if_neg h]; simp [h]
theorem xv_make {f : FD} {cls : Str} {n : Nat} {a : M (List D)} {Q : D → DS → Prop} : Ev (mMake f cls n a) s Q = Ev a s fun xs s' => xs.length = n ∧ Cl f (.dict [(.none, .str cls)] :: xs) fun d as => So (nonO d) fun _ => So (hdO as) fun e' => Q e' s' := by with_unfolding_all exact xv_make_0
theorem so_dof {l : List (D × D)} {Q : List (D × D) → Prop} : So (dof (.dict l)) Q = Q l := by with_unfolding_all rfl
theorem so_noFd_0 {m : Str} {l : List (D × D)} {Q : Unit → Prop} (h : fldD m l = none) : So0 (noFd m (.dict l)) Q = Q () := by
  unfold noFd; dsimp only [dof]; rw [h]; rfl
theorem so_noFd {m : Str} {l : List (D × D)} {Q : Unit → Prop} (h : fldD m l = none) : So (noFd m (.dict l)) Q = Q () := by with_unfolding_all exact so_noFd_0 h
theorem fdN {f : Str} : fldD f [] = none := nr rfl
theorem fdC {f : Str} {x : D} {l : List (D × D)} : fldD f ((.none, x) :: l) = fldD f l := nr rfl
theorem fdE {f : Str} {x : D} {l : List (D × D)} : fldD f ((.str f, x) :: l) = some x := if_pos rfl
theorem fdO {f g : Str} {x : D} {l : List (D × D)} (h : (f = g) = False) : fldD f ((.str g, x) :: l) = fldD f l := if_neg (by rw [h]; exact id)
theorem ptN {f : Str} {y : D} : putDF f y [] = [(.str f, y)] := nr rfl
theorem ptC {f : Str} {x y : D} {l : List (D × D)} : putDF f y ((.none, x) :: l) = (.none, x) :: putDF f y l := nr rfl
theorem ptE {f : Str} {x y : D} {l : List (D × D)} : putDF f y ((.str f, x) :: l) = (.str f, y) :: l := if_pos rfl
theorem ptO {f g : Str} {x y : D} {l : List (D × D)} (h : (g = f) = False) : putDF f y ((.str g, x) :: l) = (.str g, x) :: putDF f y l := if_neg (by rw [h]; exact id)
end
end Z
set_option Elab.async false
set_option linter.all false
set_option maxRecDepth 100000
namespace Z
open PySem L2
/-! ### methods of the text -/
def inCls (s : Stmt) (j : Nat) : Stmt := match s with
  | .ClassDef _ _ _ b _ _ _ _ _ _ _ => b.getD j s
  | _ => s
/-- what a caller knows of a method; of a class that is called -/
def FkM (P : Program) (w : World) (K : Fg) (mg : Str → Option Value) (base : Heap) (C : Addr) (m : Str) (k : Nat) (ps : List Str) (sp : Sp) : Prop :=
  ∃ (f : Addr) (fd : FuncData), FnOk P w K mg base CX0 k f fd ps sp ∧ Meth K C m f ∧ Binds K fd ps []
def FkI (P : Program) (w : World) (K : Fg) (mg : Str → Option Value) (base : Heap) (x : Str) (C : Addr) (k : Nat) (ps : List Str) (sp : Sp) : Prop :=
  ∃ (f : Addr) (fd : FuncData), FnOk P w K mg base CX0 k f fd ps sp ∧ Mk K C f ∧ Binds K fd ps [] ∧ mg x = some (.ref C)
abbrev FnQ (K : Fg) (x y : Str) (st : Stmt) (f : Addr) (fd : FuncData) : Prop := FunD K x y (defArgs st) (defBody st) (defScope st) [] [] f fd
theorem fn_okQ {P : Program} {w : World} {K : Fg} {mg : Str → Option Value} {base : Heap} {x y : Str} {st : Stmt} {f : Addr} {fd : FuncData} {N xs : List Str} {ps : List Kd} {rk : Kd} {k : Nat} {b : MS} {O1 : List Kd} (F : FnQ K x y st f fd) (S : FnScope N xs (defScope st)) (hx : xs.length = ps.length) (hN : ps.length ≤ N.length)
    (h : ∀ (cdv : Value) (A : Around) (outer : List Env) (s : Shared) (H : Hp) (E : XK), Room k (A.deeper (PyProof.Rows.envOfC y (defScope st) s.heap.objs.size f cdv)) →
      ∃ t, PSs (cxOf CX0 P w K mg base N y (defScope st) f cdv A outer s H E).nox (defBody st) t ∧ ∀ c : Ctx, c.ps = (ps, []) → c.rk = rk → c.mg = mg → DC K c [] (ps ++ List.replicate (N.length - ps.length) .sh) t b O1) :
    FnOk P w K mg base CX0 (k + 1) f fd xs (spD K mg (fnD N.length ps.length rk b) ps rk) := by
  refine F.ok S (fun vs H Q E q => (spD_len q).trans hx.symm) (fun cdv A outer s H vs Q E hr q => ?_)
  obtain ⟨t, p, d⟩ := h cdv A outer s H E hr
  exact ⟨t, p.nox, body_ok rfl E (fun c h1 h2 h3 _ _ => d c h1 h2 h3) q hN⟩
theorem one_cls {K : Fg} {x cls f : Str} {C C' : Addr} (a : Cls K C) (b : NoAttr K C f) (h : List.lookup cls [(x, C)] = some C') : Cls K C' ∧ NoAttr K C' f := by
  rw [List.lookup_cons] at h
  split at h
  · cases h; exact ⟨a, b⟩
  · cases h
/-- a slot's thing, handed over -/
def mMove (i : Nat) : M D := fun s => match s[i]? with
  | some (some d) => .ok d (s.set i none)
  | _ => .no
theorem o_move {K : Fg} {c : Ctx} {O : List Kd} {k : Kd} (i : Nat) (hk : O.getD i .sh = k) (hp : isPm O[i]? = false := by rfl) : DO K c O k (tVar i) (mMove i) := ⟨fun {F H σ fps ds ds' d} r e Q q => by
  unfold mMove at e
  split at e
  · rename_i d0 hd
    cases e
    obtain ⟨v, hv, ow⟩ := r.slots i d hd
    rw [hk] at ow
    refine ⟨v, hv, q F H _ v (fps i) (Same.refl _) (r.aside i) ow (fun q hq => ?_) (r.nd i)⟩
    obtain ⟨h1, h2, h3⟩ := r.off i q hq
    refine ⟨h1, h2, ?_, fun j hj => ?_⟩
    · rcases h3 with h | ⟨_, h⟩
      · exact h
      · rw [hp] at h; cases h
    · by_cases z : j = i
      · simp only [if_pos z] at hj; cases hj
      · simp only [if_neg z] at hj; exact r.dj j i z q hj hq
  · cases e⟩
theorem ev_move_0 {s : DS} {i : Nat} {Q : D → DS → Prop} : Ev0 (mMove i) s Q = So0 (look s i) fun d => Q d (s.set i none) := by
  unfold Ev0 mMove look
  cases s[i]? with
  | none => rfl
  | some o => cases o <;> rfl
theorem ev_move {s : DS} {i : Nat} {Q : D → DS → Prop} : Ev (mMove i) s Q = So (look s i) fun d => Q d (s.set i none) := by with_unfolding_all exact ev_move_0
end Z
set_option Elab.async false
set_option linter.all false
set_option maxRecDepth 100000
namespace Z
open PySem L2
theorem map_inj {α β : Type} {f : α → β} (hf : ∀ a b, f a = f b → a = b) : ∀ {l l' : List α}, l.map f = l'.map f → l = l'
  | [], [], _ => rfl
  | [], _ :: _, h => by cases h
  | _ :: _, [], h => by cases h
  | a :: l, b :: l', h => by
    rw [List.map_cons, List.map_cons] at h
    injection h with h1 h2
    rw [hf a b h1, map_inj hf h2]
theorem strE {a b : String} : (Str.ofString a = Str.ofString b) = (a = b) := propext ⟨fun h => by
  rw [Str.ofString_eq_toList, Str.ofString_eq_toList] at h
  injection h with h
  have h2 : a.toList.map Char.toNat = b.toList.map Char.toNat := by simpa using h
  have h3 : a.toList = b.toList := map_inj (fun x y e => Char.toNat_inj.mp e) h2
  exact String.toList_inj.mp h3, fun h => by rw [h]⟩
theorem nm_ahead_end : (Str.ofString "ahead" = Str.ofString "end") = False := by rw [strE]; exact eq_false (by decide)
theorem nm_ahead_ended : (Str.ofString "ahead" = Str.ofString "ended") = False := by rw [strE]; exact eq_false (by decide)
theorem nm_ahead_figures : (Str.ofString "ahead" = Str.ofString "figures") = False := by rw [strE]; exact eq_false (by decide)
theorem nm_ahead_is_figure : (Str.ofString "ahead" = Str.ofString "is_figure") = False := by rw [strE]; exact eq_false (by decide)
theorem nm_ahead_kind : (Str.ofString "ahead" = Str.ofString "kind") = False := by rw [strE]; exact eq_false (by decide)
theorem nm_ahead_last : (Str.ofString "ahead" = Str.ofString "last") = False := by rw [strE]; exact eq_false (by decide)
theorem nm_ahead_parted : (Str.ofString "ahead" = Str.ofString "parted") = False := by rw [strE]; exact eq_false (by decide)
theorem nm_ahead_put : (Str.ofString "ahead" = Str.ofString "put") = False := by rw [strE]; exact eq_false (by decide)
theorem nm_ahead_told : (Str.ofString "ahead" = Str.ofString "told") = False := by rw [strE]; exact eq_false (by decide)
theorem nm_ask_cell_kind : (Str.ofString "ask_cell" = Str.ofString "kind") = False := by rw [strE]; exact eq_false (by decide)
theorem nm_ask_cell_looks : (Str.ofString "ask_cell" = Str.ofString "looks") = False := by rw [strE]; exact eq_false (by decide)
theorem nm_ask_cell_sight : (Str.ofString "ask_cell" = Str.ofString "sight") = False := by rw [strE]; exact eq_false (by decide)
theorem nm_ask_cell_table : (Str.ofString "ask_cell" = Str.ofString "table") = False := by rw [strE]; exact eq_false (by decide)
theorem nm_base_below : (Str.ofString "base" = Str.ofString "below") = False := by rw [strE]; exact eq_false (by decide)
theorem nm_base_held : (Str.ofString "base" = Str.ofString "held") = False := by rw [strE]; exact eq_false (by decide)
theorem nm_base_put : (Str.ofString "base" = Str.ofString "put") = False := by rw [strE]; exact eq_false (by decide)
theorem nm_base_under : (Str.ofString "base" = Str.ofString "under") = False := by rw [strE]; exact eq_false (by decide)
theorem nm_base_upper : (Str.ofString "base" = Str.ofString "upper") = False := by rw [strE]; exact eq_false (by decide)
theorem nm_begin_done : (Str.ofString "begin" = Str.ofString "done") = False := by rw [strE]; exact eq_false (by decide)
theorem nm_begin_figures : (Str.ofString "begin" = Str.ofString "figures") = False := by rw [strE]; exact eq_false (by decide)
theorem nm_begin_great : (Str.ofString "begin" = Str.ofString "great") = False := by rw [strE]; exact eq_false (by decide)
theorem nm_begin_kind : (Str.ofString "begin" = Str.ofString "kind") = False := by rw [strE]; exact eq_false (by decide)
theorem nm_begin_left : (Str.ofString "begin" = Str.ofString "left") = False := by rw [strE]; exact eq_false (by decide)
theorem nm_begin_looks : (Str.ofString "begin" = Str.ofString "looks") = False := by rw [strE]; exact eq_false (by decide)
theorem nm_begin_numbers : (Str.ofString "begin" = Str.ofString "numbers") = False := by rw [strE]; exact eq_false (by decide)
theorem nm_begin_rows : (Str.ofString "begin" = Str.ofString "rows") = False := by rw [strE]; exact eq_false (by decide)
theorem nm_begin_seen : (Str.ofString "begin" = Str.ofString "seen") = False := by rw [strE]; exact eq_false (by decide)
theorem nm_begin_stand : (Str.ofString "begin" = Str.ofString "stand") = False := by rw [strE]; exact eq_false (by decide)
theorem nm_begin_wide : (Str.ofString "begin" = Str.ofString "wide") = False := by rw [strE]; exact eq_false (by decide)
theorem nm_begin_works : (Str.ofString "begin" = Str.ofString "works") = False := by rw [strE]; exact eq_false (by decide)
theorem nm_begin_rows_done : (Str.ofString "begin_rows" = Str.ofString "done") = False := by rw [strE]; exact eq_false (by decide)
theorem nm_begin_rows_kind : (Str.ofString "begin_rows" = Str.ofString "kind") = False := by rw [strE]; exact eq_false (by decide)
theorem nm_begin_rows_looks : (Str.ofString "begin_rows" = Str.ofString "looks") = False := by rw [strE]; exact eq_false (by decide)
theorem nm_begin_rows_rows : (Str.ofString "begin_rows" = Str.ofString "rows") = False := by rw [strE]; exact eq_false (by decide)
theorem nm_begin_rows_seen : (Str.ofString "begin_rows" = Str.ofString "seen") = False := by rw [strE]; exact eq_false (by decide)
theorem nm_begin_rows_works : (Str.ofString "begin_rows" = Str.ofString "works") = False := by rw [strE]; exact eq_false (by decide)
theorem nm_below_base : (Str.ofString "below" = Str.ofString "base") = False := by rw [strE]; exact eq_false (by decide)
theorem nm_below_under : (Str.ofString "below" = Str.ofString "under") = False := by rw [strE]; exact eq_false (by decide)
theorem nm_below_upper : (Str.ofString "below" = Str.ofString "upper") = False := by rw [strE]; exact eq_false (by decide)
theorem nm_deeds_done : (Str.ofString "deeds" = Str.ofString "done") = False := by rw [strE]; exact eq_false (by decide)
theorem nm_deeds_kind : (Str.ofString "deeds" = Str.ofString "kind") = False := by rw [strE]; exact eq_false (by decide)
theorem nm_deeds_looks : (Str.ofString "deeds" = Str.ofString "looks") = False := by rw [strE]; exact eq_false (by decide)
theorem nm_deeds_rows : (Str.ofString "deeds" = Str.ofString "rows") = False := by rw [strE]; exact eq_false (by decide)
theorem nm_deeds_seen : (Str.ofString "deeds" = Str.ofString "seen") = False := by rw [strE]; exact eq_false (by decide)
theorem nm_deeds_works : (Str.ofString "deeds" = Str.ofString "works") = False := by rw [strE]; exact eq_false (by decide)
theorem nm_divided_kind : (Str.ofString "divided" = Str.ofString "kind") = False := by rw [strE]; exact eq_false (by decide)
theorem nm_divided_looks : (Str.ofString "divided" = Str.ofString "looks") = False := by rw [strE]; exact eq_false (by decide)
theorem nm_divided_sight : (Str.ofString "divided" = Str.ofString "sight") = False := by rw [strE]; exact eq_false (by decide)
theorem nm_divided_table : (Str.ofString "divided" = Str.ofString "table") = False := by rw [strE]; exact eq_false (by decide)
theorem nm_done_begin : (Str.ofString "done" = Str.ofString "begin") = False := by rw [strE]; exact eq_false (by decide)
theorem nm_done_begin_rows : (Str.ofString "done" = Str.ofString "begin_rows") = False := by rw [strE]; exact eq_false (by decide)
theorem nm_done_deeds : (Str.ofString "done" = Str.ofString "deeds") = False := by rw [strE]; exact eq_false (by decide)
theorem nm_done_entries : (Str.ofString "done" = Str.ofString "entries") = False := by rw [strE]; exact eq_false (by decide)
theorem nm_done_go : (Str.ofString "done" = Str.ofString "go") = False := by rw [strE]; exact eq_false (by decide)
theorem nm_done_kind : (Str.ofString "done" = Str.ofString "kind") = False := by rw [strE]; exact eq_false (by decide)
theorem nm_done_looked : (Str.ofString "done" = Str.ofString "looked") = False := by rw [strE]; exact eq_false (by decide)
theorem nm_done_looks : (Str.ofString "done" = Str.ofString "looks") = False := by rw [strE]; exact eq_false (by decide)
theorem nm_done_put : (Str.ofString "done" = Str.ofString "put") = False := by rw [strE]; exact eq_false (by decide)
theorem nm_done_rest : (Str.ofString "done" = Str.ofString "rest") = False := by rw [strE]; exact eq_false (by decide)
theorem nm_done_row : (Str.ofString "done" = Str.ofString "row") = False := by rw [strE]; exact eq_false (by decide)
theorem nm_done_rows : (Str.ofString "done" = Str.ofString "rows") = False := by rw [strE]; exact eq_false (by decide)
theorem nm_done_seen : (Str.ofString "done" = Str.ofString "seen") = False := by rw [strE]; exact eq_false (by decide)
theorem nm_done_work : (Str.ofString "done" = Str.ofString "work") = False := by rw [strE]; exact eq_false (by decide)
theorem nm_done_works : (Str.ofString "done" = Str.ofString "works") = False := by rw [strE]; exact eq_false (by decide)
theorem nm_done_wrong : (Str.ofString "done" = Str.ofString "wrong") = False := by rw [strE]; exact eq_false (by decide)
theorem nm_end_ahead : (Str.ofString "end" = Str.ofString "ahead") = False := by rw [strE]; exact eq_false (by decide)
theorem nm_end_ended : (Str.ofString "end" = Str.ofString "ended") = False := by rw [strE]; exact eq_false (by decide)
theorem nm_end_figures : (Str.ofString "end" = Str.ofString "figures") = False := by rw [strE]; exact eq_false (by decide)
theorem nm_end_kind : (Str.ofString "end" = Str.ofString "kind") = False := by rw [strE]; exact eq_false (by decide)
theorem nm_end_last : (Str.ofString "end" = Str.ofString "last") = False := by rw [strE]; exact eq_false (by decide)
theorem nm_ended_ahead : (Str.ofString "ended" = Str.ofString "ahead") = False := by rw [strE]; exact eq_false (by decide)
theorem nm_ended_end : (Str.ofString "ended" = Str.ofString "end") = False := by rw [strE]; exact eq_false (by decide)
theorem nm_ended_figures : (Str.ofString "ended" = Str.ofString "figures") = False := by rw [strE]; exact eq_false (by decide)
theorem nm_ended_is_figure : (Str.ofString "ended" = Str.ofString "is_figure") = False := by rw [strE]; exact eq_false (by decide)
theorem nm_ended_kind : (Str.ofString "ended" = Str.ofString "kind") = False := by rw [strE]; exact eq_false (by decide)
theorem nm_ended_last : (Str.ofString "ended" = Str.ofString "last") = False := by rw [strE]; exact eq_false (by decide)
theorem nm_ended_parted : (Str.ofString "ended" = Str.ofString "parted") = False := by rw [strE]; exact eq_false (by decide)
theorem nm_ended_put : (Str.ofString "ended" = Str.ofString "put") = False := by rw [strE]; exact eq_false (by decide)
theorem nm_ended_told : (Str.ofString "ended" = Str.ofString "told") = False := by rw [strE]; exact eq_false (by decide)
theorem nm_entered_kind : (Str.ofString "entered" = Str.ofString "kind") = False := by rw [strE]; exact eq_false (by decide)
theorem nm_entered_looks : (Str.ofString "entered" = Str.ofString "looks") = False := by rw [strE]; exact eq_false (by decide)
theorem nm_entered_sight : (Str.ofString "entered" = Str.ofString "sight") = False := by rw [strE]; exact eq_false (by decide)
theorem nm_entered_table : (Str.ofString "entered" = Str.ofString "table") = False := by rw [strE]; exact eq_false (by decide)
theorem nm_entries_done : (Str.ofString "entries" = Str.ofString "done") = False := by rw [strE]; exact eq_false (by decide)
theorem nm_entries_kind : (Str.ofString "entries" = Str.ofString "kind") = False := by rw [strE]; exact eq_false (by decide)
theorem nm_entries_looks : (Str.ofString "entries" = Str.ofString "looks") = False := by rw [strE]; exact eq_false (by decide)
theorem nm_entries_rows : (Str.ofString "entries" = Str.ofString "rows") = False := by rw [strE]; exact eq_false (by decide)
theorem nm_entries_seen : (Str.ofString "entries" = Str.ofString "seen") = False := by rw [strE]; exact eq_false (by decide)
theorem nm_entries_works : (Str.ofString "entries" = Str.ofString "works") = False := by rw [strE]; exact eq_false (by decide)
theorem nm_figures_ahead : (Str.ofString "figures" = Str.ofString "ahead") = False := by rw [strE]; exact eq_false (by decide)
theorem nm_figures_begin : (Str.ofString "figures" = Str.ofString "begin") = False := by rw [strE]; exact eq_false (by decide)
theorem nm_figures_end : (Str.ofString "figures" = Str.ofString "end") = False := by rw [strE]; exact eq_false (by decide)
theorem nm_figures_ended : (Str.ofString "figures" = Str.ofString "ended") = False := by rw [strE]; exact eq_false (by decide)
theorem nm_figures_great : (Str.ofString "figures" = Str.ofString "great") = False := by rw [strE]; exact eq_false (by decide)
theorem nm_figures_is_figure : (Str.ofString "figures" = Str.ofString "is_figure") = False := by rw [strE]; exact eq_false (by decide)
theorem nm_figures_kind : (Str.ofString "figures" = Str.ofString "kind") = False := by rw [strE]; exact eq_false (by decide)
theorem nm_figures_last : (Str.ofString "figures" = Str.ofString "last") = False := by rw [strE]; exact eq_false (by decide)
theorem nm_figures_left : (Str.ofString "figures" = Str.ofString "left") = False := by rw [strE]; exact eq_false (by decide)
theorem nm_figures_looks : (Str.ofString "figures" = Str.ofString "looks") = False := by rw [strE]; exact eq_false (by decide)
theorem nm_figures_numbers : (Str.ofString "figures" = Str.ofString "numbers") = False := by rw [strE]; exact eq_false (by decide)
theorem nm_figures_parted : (Str.ofString "figures" = Str.ofString "parted") = False := by rw [strE]; exact eq_false (by decide)
theorem nm_figures_put : (Str.ofString "figures" = Str.ofString "put") = False := by rw [strE]; exact eq_false (by decide)
theorem nm_figures_rest : (Str.ofString "figures" = Str.ofString "rest") = False := by rw [strE]; exact eq_false (by decide)
theorem nm_figures_stand : (Str.ofString "figures" = Str.ofString "stand") = False := by rw [strE]; exact eq_false (by decide)
theorem nm_figures_told : (Str.ofString "figures" = Str.ofString "told") = False := by rw [strE]; exact eq_false (by decide)
theorem nm_figures_tried : (Str.ofString "figures" = Str.ofString "tried") = False := by rw [strE]; exact eq_false (by decide)
theorem nm_figures_wide : (Str.ofString "figures" = Str.ofString "wide") = False := by rw [strE]; exact eq_false (by decide)
theorem nm_go_done : (Str.ofString "go" = Str.ofString "done") = False := by rw [strE]; exact eq_false (by decide)
theorem nm_go_kind : (Str.ofString "go" = Str.ofString "kind") = False := by rw [strE]; exact eq_false (by decide)
theorem nm_go_looks : (Str.ofString "go" = Str.ofString "looks") = False := by rw [strE]; exact eq_false (by decide)
theorem nm_go_rows : (Str.ofString "go" = Str.ofString "rows") = False := by rw [strE]; exact eq_false (by decide)
theorem nm_go_seen : (Str.ofString "go" = Str.ofString "seen") = False := by rw [strE]; exact eq_false (by decide)
theorem nm_go_works : (Str.ofString "go" = Str.ofString "works") = False := by rw [strE]; exact eq_false (by decide)
theorem nm_great_begin : (Str.ofString "great" = Str.ofString "begin") = False := by rw [strE]; exact eq_false (by decide)
theorem nm_great_figures : (Str.ofString "great" = Str.ofString "figures") = False := by rw [strE]; exact eq_false (by decide)
theorem nm_great_kind : (Str.ofString "great" = Str.ofString "kind") = False := by rw [strE]; exact eq_false (by decide)
theorem nm_great_left : (Str.ofString "great" = Str.ofString "left") = False := by rw [strE]; exact eq_false (by decide)
theorem nm_great_looks : (Str.ofString "great" = Str.ofString "looks") = False := by rw [strE]; exact eq_false (by decide)
theorem nm_great_numbers : (Str.ofString "great" = Str.ofString "numbers") = False := by rw [strE]; exact eq_false (by decide)
theorem nm_great_rest : (Str.ofString "great" = Str.ofString "rest") = False := by rw [strE]; exact eq_false (by decide)
theorem nm_great_stand : (Str.ofString "great" = Str.ofString "stand") = False := by rw [strE]; exact eq_false (by decide)
theorem nm_great_tried : (Str.ofString "great" = Str.ofString "tried") = False := by rw [strE]; exact eq_false (by decide)
theorem nm_great_wide : (Str.ofString "great" = Str.ofString "wide") = False := by rw [strE]; exact eq_false (by decide)
theorem nm_held_base : (Str.ofString "held" = Str.ofString "base") = False := by rw [strE]; exact eq_false (by decide)
theorem nm_held_under : (Str.ofString "held" = Str.ofString "under") = False := by rw [strE]; exact eq_false (by decide)
theorem nm_held_upper : (Str.ofString "held" = Str.ofString "upper") = False := by rw [strE]; exact eq_false (by decide)
theorem nm_is_figure_ahead : (Str.ofString "is_figure" = Str.ofString "ahead") = False := by rw [strE]; exact eq_false (by decide)
theorem nm_is_figure_ended : (Str.ofString "is_figure" = Str.ofString "ended") = False := by rw [strE]; exact eq_false (by decide)
theorem nm_is_figure_figures : (Str.ofString "is_figure" = Str.ofString "figures") = False := by rw [strE]; exact eq_false (by decide)
theorem nm_is_figure_kind : (Str.ofString "is_figure" = Str.ofString "kind") = False := by rw [strE]; exact eq_false (by decide)
theorem nm_is_figure_last : (Str.ofString "is_figure" = Str.ofString "last") = False := by rw [strE]; exact eq_false (by decide)
theorem nm_kind_ahead : (Str.ofString "kind" = Str.ofString "ahead") = False := by rw [strE]; exact eq_false (by decide)
theorem nm_kind_ask_cell : (Str.ofString "kind" = Str.ofString "ask_cell") = False := by rw [strE]; exact eq_false (by decide)
theorem nm_kind_begin : (Str.ofString "kind" = Str.ofString "begin") = False := by rw [strE]; exact eq_false (by decide)
theorem nm_kind_begin_rows : (Str.ofString "kind" = Str.ofString "begin_rows") = False := by rw [strE]; exact eq_false (by decide)
theorem nm_kind_deeds : (Str.ofString "kind" = Str.ofString "deeds") = False := by rw [strE]; exact eq_false (by decide)
theorem nm_kind_divided : (Str.ofString "kind" = Str.ofString "divided") = False := by rw [strE]; exact eq_false (by decide)
theorem nm_kind_done : (Str.ofString "kind" = Str.ofString "done") = False := by rw [strE]; exact eq_false (by decide)
theorem nm_kind_end : (Str.ofString "kind" = Str.ofString "end") = False := by rw [strE]; exact eq_false (by decide)
theorem nm_kind_ended : (Str.ofString "kind" = Str.ofString "ended") = False := by rw [strE]; exact eq_false (by decide)
theorem nm_kind_entered : (Str.ofString "kind" = Str.ofString "entered") = False := by rw [strE]; exact eq_false (by decide)
theorem nm_kind_entries : (Str.ofString "kind" = Str.ofString "entries") = False := by rw [strE]; exact eq_false (by decide)
theorem nm_kind_figures : (Str.ofString "kind" = Str.ofString "figures") = False := by rw [strE]; exact eq_false (by decide)
theorem nm_kind_go : (Str.ofString "kind" = Str.ofString "go") = False := by rw [strE]; exact eq_false (by decide)
theorem nm_kind_great : (Str.ofString "kind" = Str.ofString "great") = False := by rw [strE]; exact eq_false (by decide)
theorem nm_kind_is_figure : (Str.ofString "kind" = Str.ofString "is_figure") = False := by rw [strE]; exact eq_false (by decide)
theorem nm_kind_last : (Str.ofString "kind" = Str.ofString "last") = False := by rw [strE]; exact eq_false (by decide)
theorem nm_kind_left : (Str.ofString "kind" = Str.ofString "left") = False := by rw [strE]; exact eq_false (by decide)
theorem nm_kind_looked : (Str.ofString "kind" = Str.ofString "looked") = False := by rw [strE]; exact eq_false (by decide)
theorem nm_kind_looks : (Str.ofString "kind" = Str.ofString "looks") = False := by rw [strE]; exact eq_false (by decide)
theorem nm_kind_numbers : (Str.ofString "kind" = Str.ofString "numbers") = False := by rw [strE]; exact eq_false (by decide)
theorem nm_kind_parted : (Str.ofString "kind" = Str.ofString "parted") = False := by rw [strE]; exact eq_false (by decide)
theorem nm_kind_put : (Str.ofString "kind" = Str.ofString "put") = False := by rw [strE]; exact eq_false (by decide)
theorem nm_kind_put_all : (Str.ofString "kind" = Str.ofString "put_all") = False := by rw [strE]; exact eq_false (by decide)
theorem nm_kind_rest : (Str.ofString "kind" = Str.ofString "rest") = False := by rw [strE]; exact eq_false (by decide)
theorem nm_kind_row : (Str.ofString "kind" = Str.ofString "row") = False := by rw [strE]; exact eq_false (by decide)
theorem nm_kind_rows : (Str.ofString "kind" = Str.ofString "rows") = False := by rw [strE]; exact eq_false (by decide)
theorem nm_kind_say : (Str.ofString "kind" = Str.ofString "say") = False := by rw [strE]; exact eq_false (by decide)
theorem nm_kind_seen : (Str.ofString "kind" = Str.ofString "seen") = False := by rw [strE]; exact eq_false (by decide)
theorem nm_kind_sight : (Str.ofString "kind" = Str.ofString "sight") = False := by rw [strE]; exact eq_false (by decide)
theorem nm_kind_stand : (Str.ofString "kind" = Str.ofString "stand") = False := by rw [strE]; exact eq_false (by decide)
theorem nm_kind_table : (Str.ofString "kind" = Str.ofString "table") = False := by rw [strE]; exact eq_false (by decide)
theorem nm_kind_told : (Str.ofString "kind" = Str.ofString "told") = False := by rw [strE]; exact eq_false (by decide)
theorem nm_kind_tried : (Str.ofString "kind" = Str.ofString "tried") = False := by rw [strE]; exact eq_false (by decide)
theorem nm_kind_turned : (Str.ofString "kind" = Str.ofString "turned") = False := by rw [strE]; exact eq_false (by decide)
theorem nm_kind_wide : (Str.ofString "kind" = Str.ofString "wide") = False := by rw [strE]; exact eq_false (by decide)
theorem nm_kind_work : (Str.ofString "kind" = Str.ofString "work") = False := by rw [strE]; exact eq_false (by decide)
theorem nm_kind_works : (Str.ofString "kind" = Str.ofString "works") = False := by rw [strE]; exact eq_false (by decide)
theorem nm_kind_wrong : (Str.ofString "kind" = Str.ofString "wrong") = False := by rw [strE]; exact eq_false (by decide)
theorem nm_last_ahead : (Str.ofString "last" = Str.ofString "ahead") = False := by rw [strE]; exact eq_false (by decide)
theorem nm_last_end : (Str.ofString "last" = Str.ofString "end") = False := by rw [strE]; exact eq_false (by decide)
theorem nm_last_ended : (Str.ofString "last" = Str.ofString "ended") = False := by rw [strE]; exact eq_false (by decide)
theorem nm_last_figures : (Str.ofString "last" = Str.ofString "figures") = False := by rw [strE]; exact eq_false (by decide)
theorem nm_last_is_figure : (Str.ofString "last" = Str.ofString "is_figure") = False := by rw [strE]; exact eq_false (by decide)
theorem nm_last_kind : (Str.ofString "last" = Str.ofString "kind") = False := by rw [strE]; exact eq_false (by decide)
theorem nm_last_parted : (Str.ofString "last" = Str.ofString "parted") = False := by rw [strE]; exact eq_false (by decide)
theorem nm_last_put : (Str.ofString "last" = Str.ofString "put") = False := by rw [strE]; exact eq_false (by decide)
theorem nm_last_told : (Str.ofString "last" = Str.ofString "told") = False := by rw [strE]; exact eq_false (by decide)
theorem nm_left_begin : (Str.ofString "left" = Str.ofString "begin") = False := by rw [strE]; exact eq_false (by decide)
theorem nm_left_figures : (Str.ofString "left" = Str.ofString "figures") = False := by rw [strE]; exact eq_false (by decide)
theorem nm_left_great : (Str.ofString "left" = Str.ofString "great") = False := by rw [strE]; exact eq_false (by decide)
theorem nm_left_kind : (Str.ofString "left" = Str.ofString "kind") = False := by rw [strE]; exact eq_false (by decide)
theorem nm_left_looks : (Str.ofString "left" = Str.ofString "looks") = False := by rw [strE]; exact eq_false (by decide)
theorem nm_left_numbers : (Str.ofString "left" = Str.ofString "numbers") = False := by rw [strE]; exact eq_false (by decide)
theorem nm_left_rest : (Str.ofString "left" = Str.ofString "rest") = False := by rw [strE]; exact eq_false (by decide)
theorem nm_left_stand : (Str.ofString "left" = Str.ofString "stand") = False := by rw [strE]; exact eq_false (by decide)
theorem nm_left_tried : (Str.ofString "left" = Str.ofString "tried") = False := by rw [strE]; exact eq_false (by decide)
theorem nm_left_wide : (Str.ofString "left" = Str.ofString "wide") = False := by rw [strE]; exact eq_false (by decide)
theorem nm_look_top : (Str.ofString "look" = Str.ofString "top") = False := by rw [strE]; exact eq_false (by decide)
theorem nm_looked_done : (Str.ofString "looked" = Str.ofString "done") = False := by rw [strE]; exact eq_false (by decide)
theorem nm_looked_kind : (Str.ofString "looked" = Str.ofString "kind") = False := by rw [strE]; exact eq_false (by decide)
theorem nm_looked_looks : (Str.ofString "looked" = Str.ofString "looks") = False := by rw [strE]; exact eq_false (by decide)
theorem nm_looked_rows : (Str.ofString "looked" = Str.ofString "rows") = False := by rw [strE]; exact eq_false (by decide)
theorem nm_looked_seen : (Str.ofString "looked" = Str.ofString "seen") = False := by rw [strE]; exact eq_false (by decide)
theorem nm_looked_sight : (Str.ofString "looked" = Str.ofString "sight") = False := by rw [strE]; exact eq_false (by decide)
theorem nm_looked_table : (Str.ofString "looked" = Str.ofString "table") = False := by rw [strE]; exact eq_false (by decide)
theorem nm_looked_works : (Str.ofString "looked" = Str.ofString "works") = False := by rw [strE]; exact eq_false (by decide)
theorem nm_looks_ask_cell : (Str.ofString "looks" = Str.ofString "ask_cell") = False := by rw [strE]; exact eq_false (by decide)
theorem nm_looks_begin : (Str.ofString "looks" = Str.ofString "begin") = False := by rw [strE]; exact eq_false (by decide)
theorem nm_looks_begin_rows : (Str.ofString "looks" = Str.ofString "begin_rows") = False := by rw [strE]; exact eq_false (by decide)
theorem nm_looks_deeds : (Str.ofString "looks" = Str.ofString "deeds") = False := by rw [strE]; exact eq_false (by decide)
theorem nm_looks_divided : (Str.ofString "looks" = Str.ofString "divided") = False := by rw [strE]; exact eq_false (by decide)
theorem nm_looks_done : (Str.ofString "looks" = Str.ofString "done") = False := by rw [strE]; exact eq_false (by decide)
theorem nm_looks_entered : (Str.ofString "looks" = Str.ofString "entered") = False := by rw [strE]; exact eq_false (by decide)
theorem nm_looks_entries : (Str.ofString "looks" = Str.ofString "entries") = False := by rw [strE]; exact eq_false (by decide)
theorem nm_looks_figures : (Str.ofString "looks" = Str.ofString "figures") = False := by rw [strE]; exact eq_false (by decide)
theorem nm_looks_go : (Str.ofString "looks" = Str.ofString "go") = False := by rw [strE]; exact eq_false (by decide)
theorem nm_looks_great : (Str.ofString "looks" = Str.ofString "great") = False := by rw [strE]; exact eq_false (by decide)
theorem nm_looks_kind : (Str.ofString "looks" = Str.ofString "kind") = False := by rw [strE]; exact eq_false (by decide)
theorem nm_looks_left : (Str.ofString "looks" = Str.ofString "left") = False := by rw [strE]; exact eq_false (by decide)
theorem nm_looks_looked : (Str.ofString "looks" = Str.ofString "looked") = False := by rw [strE]; exact eq_false (by decide)
theorem nm_looks_numbers : (Str.ofString "looks" = Str.ofString "numbers") = False := by rw [strE]; exact eq_false (by decide)
theorem nm_looks_put : (Str.ofString "looks" = Str.ofString "put") = False := by rw [strE]; exact eq_false (by decide)
theorem nm_looks_put_all : (Str.ofString "looks" = Str.ofString "put_all") = False := by rw [strE]; exact eq_false (by decide)
theorem nm_looks_rest : (Str.ofString "looks" = Str.ofString "rest") = False := by rw [strE]; exact eq_false (by decide)
theorem nm_looks_row : (Str.ofString "looks" = Str.ofString "row") = False := by rw [strE]; exact eq_false (by decide)
theorem nm_looks_rows : (Str.ofString "looks" = Str.ofString "rows") = False := by rw [strE]; exact eq_false (by decide)
theorem nm_looks_say : (Str.ofString "looks" = Str.ofString "say") = False := by rw [strE]; exact eq_false (by decide)
theorem nm_looks_seen : (Str.ofString "looks" = Str.ofString "seen") = False := by rw [strE]; exact eq_false (by decide)
theorem nm_looks_sight : (Str.ofString "looks" = Str.ofString "sight") = False := by rw [strE]; exact eq_false (by decide)
theorem nm_looks_stand : (Str.ofString "looks" = Str.ofString "stand") = False := by rw [strE]; exact eq_false (by decide)
theorem nm_looks_table : (Str.ofString "looks" = Str.ofString "table") = False := by rw [strE]; exact eq_false (by decide)
theorem nm_looks_told : (Str.ofString "looks" = Str.ofString "told") = False := by rw [strE]; exact eq_false (by decide)
theorem nm_looks_tried : (Str.ofString "looks" = Str.ofString "tried") = False := by rw [strE]; exact eq_false (by decide)
theorem nm_looks_turned : (Str.ofString "looks" = Str.ofString "turned") = False := by rw [strE]; exact eq_false (by decide)
theorem nm_looks_wide : (Str.ofString "looks" = Str.ofString "wide") = False := by rw [strE]; exact eq_false (by decide)
theorem nm_looks_work : (Str.ofString "looks" = Str.ofString "work") = False := by rw [strE]; exact eq_false (by decide)
theorem nm_looks_works : (Str.ofString "looks" = Str.ofString "works") = False := by rw [strE]; exact eq_false (by decide)
theorem nm_looks_wrong : (Str.ofString "looks" = Str.ofString "wrong") = False := by rw [strE]; exact eq_false (by decide)
theorem nm_numbers_begin : (Str.ofString "numbers" = Str.ofString "begin") = False := by rw [strE]; exact eq_false (by decide)
theorem nm_numbers_figures : (Str.ofString "numbers" = Str.ofString "figures") = False := by rw [strE]; exact eq_false (by decide)
theorem nm_numbers_great : (Str.ofString "numbers" = Str.ofString "great") = False := by rw [strE]; exact eq_false (by decide)
theorem nm_numbers_kind : (Str.ofString "numbers" = Str.ofString "kind") = False := by rw [strE]; exact eq_false (by decide)
theorem nm_numbers_left : (Str.ofString "numbers" = Str.ofString "left") = False := by rw [strE]; exact eq_false (by decide)
theorem nm_numbers_looks : (Str.ofString "numbers" = Str.ofString "looks") = False := by rw [strE]; exact eq_false (by decide)
theorem nm_numbers_rest : (Str.ofString "numbers" = Str.ofString "rest") = False := by rw [strE]; exact eq_false (by decide)
theorem nm_numbers_stand : (Str.ofString "numbers" = Str.ofString "stand") = False := by rw [strE]; exact eq_false (by decide)
theorem nm_numbers_tried : (Str.ofString "numbers" = Str.ofString "tried") = False := by rw [strE]; exact eq_false (by decide)
theorem nm_numbers_wide : (Str.ofString "numbers" = Str.ofString "wide") = False := by rw [strE]; exact eq_false (by decide)
theorem nm_parted_ahead : (Str.ofString "parted" = Str.ofString "ahead") = False := by rw [strE]; exact eq_false (by decide)
theorem nm_parted_ended : (Str.ofString "parted" = Str.ofString "ended") = False := by rw [strE]; exact eq_false (by decide)
theorem nm_parted_figures : (Str.ofString "parted" = Str.ofString "figures") = False := by rw [strE]; exact eq_false (by decide)
theorem nm_parted_kind : (Str.ofString "parted" = Str.ofString "kind") = False := by rw [strE]; exact eq_false (by decide)
theorem nm_parted_last : (Str.ofString "parted" = Str.ofString "last") = False := by rw [strE]; exact eq_false (by decide)
theorem nm_put_ahead : (Str.ofString "put" = Str.ofString "ahead") = False := by rw [strE]; exact eq_false (by decide)
theorem nm_put_base : (Str.ofString "put" = Str.ofString "base") = False := by rw [strE]; exact eq_false (by decide)
theorem nm_put_done : (Str.ofString "put" = Str.ofString "done") = False := by rw [strE]; exact eq_false (by decide)
theorem nm_put_ended : (Str.ofString "put" = Str.ofString "ended") = False := by rw [strE]; exact eq_false (by decide)
theorem nm_put_figures : (Str.ofString "put" = Str.ofString "figures") = False := by rw [strE]; exact eq_false (by decide)
theorem nm_put_kind : (Str.ofString "put" = Str.ofString "kind") = False := by rw [strE]; exact eq_false (by decide)
theorem nm_put_last : (Str.ofString "put" = Str.ofString "last") = False := by rw [strE]; exact eq_false (by decide)
theorem nm_put_looks : (Str.ofString "put" = Str.ofString "looks") = False := by rw [strE]; exact eq_false (by decide)
theorem nm_put_rows : (Str.ofString "put" = Str.ofString "rows") = False := by rw [strE]; exact eq_false (by decide)
theorem nm_put_seen : (Str.ofString "put" = Str.ofString "seen") = False := by rw [strE]; exact eq_false (by decide)
theorem nm_put_under : (Str.ofString "put" = Str.ofString "under") = False := by rw [strE]; exact eq_false (by decide)
theorem nm_put_upper : (Str.ofString "put" = Str.ofString "upper") = False := by rw [strE]; exact eq_false (by decide)
theorem nm_put_works : (Str.ofString "put" = Str.ofString "works") = False := by rw [strE]; exact eq_false (by decide)
theorem nm_put_all_kind : (Str.ofString "put_all" = Str.ofString "kind") = False := by rw [strE]; exact eq_false (by decide)
theorem nm_put_all_looks : (Str.ofString "put_all" = Str.ofString "looks") = False := by rw [strE]; exact eq_false (by decide)
theorem nm_put_all_sight : (Str.ofString "put_all" = Str.ofString "sight") = False := by rw [strE]; exact eq_false (by decide)
theorem nm_put_all_table : (Str.ofString "put_all" = Str.ofString "table") = False := by rw [strE]; exact eq_false (by decide)
theorem nm_rest_done : (Str.ofString "rest" = Str.ofString "done") = False := by rw [strE]; exact eq_false (by decide)
theorem nm_rest_figures : (Str.ofString "rest" = Str.ofString "figures") = False := by rw [strE]; exact eq_false (by decide)
theorem nm_rest_great : (Str.ofString "rest" = Str.ofString "great") = False := by rw [strE]; exact eq_false (by decide)
theorem nm_rest_kind : (Str.ofString "rest" = Str.ofString "kind") = False := by rw [strE]; exact eq_false (by decide)
theorem nm_rest_left : (Str.ofString "rest" = Str.ofString "left") = False := by rw [strE]; exact eq_false (by decide)
theorem nm_rest_looks : (Str.ofString "rest" = Str.ofString "looks") = False := by rw [strE]; exact eq_false (by decide)
theorem nm_rest_numbers : (Str.ofString "rest" = Str.ofString "numbers") = False := by rw [strE]; exact eq_false (by decide)
theorem nm_rest_rows : (Str.ofString "rest" = Str.ofString "rows") = False := by rw [strE]; exact eq_false (by decide)
theorem nm_rest_seen : (Str.ofString "rest" = Str.ofString "seen") = False := by rw [strE]; exact eq_false (by decide)
theorem nm_rest_stand : (Str.ofString "rest" = Str.ofString "stand") = False := by rw [strE]; exact eq_false (by decide)
theorem nm_rest_wide : (Str.ofString "rest" = Str.ofString "wide") = False := by rw [strE]; exact eq_false (by decide)
theorem nm_rest_works : (Str.ofString "rest" = Str.ofString "works") = False := by rw [strE]; exact eq_false (by decide)
theorem nm_row_done : (Str.ofString "row" = Str.ofString "done") = False := by rw [strE]; exact eq_false (by decide)
theorem nm_row_kind : (Str.ofString "row" = Str.ofString "kind") = False := by rw [strE]; exact eq_false (by decide)
theorem nm_row_looks : (Str.ofString "row" = Str.ofString "looks") = False := by rw [strE]; exact eq_false (by decide)
theorem nm_row_rows : (Str.ofString "row" = Str.ofString "rows") = False := by rw [strE]; exact eq_false (by decide)
theorem nm_row_seen : (Str.ofString "row" = Str.ofString "seen") = False := by rw [strE]; exact eq_false (by decide)
theorem nm_row_works : (Str.ofString "row" = Str.ofString "works") = False := by rw [strE]; exact eq_false (by decide)
theorem nm_rows_begin : (Str.ofString "rows" = Str.ofString "begin") = False := by rw [strE]; exact eq_false (by decide)
theorem nm_rows_begin_rows : (Str.ofString "rows" = Str.ofString "begin_rows") = False := by rw [strE]; exact eq_false (by decide)
theorem nm_rows_deeds : (Str.ofString "rows" = Str.ofString "deeds") = False := by rw [strE]; exact eq_false (by decide)
theorem nm_rows_done : (Str.ofString "rows" = Str.ofString "done") = False := by rw [strE]; exact eq_false (by decide)
theorem nm_rows_entries : (Str.ofString "rows" = Str.ofString "entries") = False := by rw [strE]; exact eq_false (by decide)
theorem nm_rows_go : (Str.ofString "rows" = Str.ofString "go") = False := by rw [strE]; exact eq_false (by decide)
theorem nm_rows_kind : (Str.ofString "rows" = Str.ofString "kind") = False := by rw [strE]; exact eq_false (by decide)
theorem nm_rows_looked : (Str.ofString "rows" = Str.ofString "looked") = False := by rw [strE]; exact eq_false (by decide)
theorem nm_rows_looks : (Str.ofString "rows" = Str.ofString "looks") = False := by rw [strE]; exact eq_false (by decide)
theorem nm_rows_put : (Str.ofString "rows" = Str.ofString "put") = False := by rw [strE]; exact eq_false (by decide)
theorem nm_rows_rest : (Str.ofString "rows" = Str.ofString "rest") = False := by rw [strE]; exact eq_false (by decide)
theorem nm_rows_row : (Str.ofString "rows" = Str.ofString "row") = False := by rw [strE]; exact eq_false (by decide)
theorem nm_rows_seen : (Str.ofString "rows" = Str.ofString "seen") = False := by rw [strE]; exact eq_false (by decide)
theorem nm_rows_work : (Str.ofString "rows" = Str.ofString "work") = False := by rw [strE]; exact eq_false (by decide)
theorem nm_rows_works : (Str.ofString "rows" = Str.ofString "works") = False := by rw [strE]; exact eq_false (by decide)
theorem nm_rows_wrong : (Str.ofString "rows" = Str.ofString "wrong") = False := by rw [strE]; exact eq_false (by decide)
theorem nm_say_kind : (Str.ofString "say" = Str.ofString "kind") = False := by rw [strE]; exact eq_false (by decide)
theorem nm_say_looks : (Str.ofString "say" = Str.ofString "looks") = False := by rw [strE]; exact eq_false (by decide)
theorem nm_say_sight : (Str.ofString "say" = Str.ofString "sight") = False := by rw [strE]; exact eq_false (by decide)
theorem nm_say_table : (Str.ofString "say" = Str.ofString "table") = False := by rw [strE]; exact eq_false (by decide)
theorem nm_seen_begin : (Str.ofString "seen" = Str.ofString "begin") = False := by rw [strE]; exact eq_false (by decide)
theorem nm_seen_begin_rows : (Str.ofString "seen" = Str.ofString "begin_rows") = False := by rw [strE]; exact eq_false (by decide)
theorem nm_seen_deeds : (Str.ofString "seen" = Str.ofString "deeds") = False := by rw [strE]; exact eq_false (by decide)
theorem nm_seen_done : (Str.ofString "seen" = Str.ofString "done") = False := by rw [strE]; exact eq_false (by decide)
theorem nm_seen_entries : (Str.ofString "seen" = Str.ofString "entries") = False := by rw [strE]; exact eq_false (by decide)
theorem nm_seen_go : (Str.ofString "seen" = Str.ofString "go") = False := by rw [strE]; exact eq_false (by decide)
theorem nm_seen_kind : (Str.ofString "seen" = Str.ofString "kind") = False := by rw [strE]; exact eq_false (by decide)
theorem nm_seen_looked : (Str.ofString "seen" = Str.ofString "looked") = False := by rw [strE]; exact eq_false (by decide)
theorem nm_seen_looks : (Str.ofString "seen" = Str.ofString "looks") = False := by rw [strE]; exact eq_false (by decide)
theorem nm_seen_put : (Str.ofString "seen" = Str.ofString "put") = False := by rw [strE]; exact eq_false (by decide)
theorem nm_seen_rest : (Str.ofString "seen" = Str.ofString "rest") = False := by rw [strE]; exact eq_false (by decide)
theorem nm_seen_row : (Str.ofString "seen" = Str.ofString "row") = False := by rw [strE]; exact eq_false (by decide)
theorem nm_seen_rows : (Str.ofString "seen" = Str.ofString "rows") = False := by rw [strE]; exact eq_false (by decide)
theorem nm_seen_work : (Str.ofString "seen" = Str.ofString "work") = False := by rw [strE]; exact eq_false (by decide)
theorem nm_seen_works : (Str.ofString "seen" = Str.ofString "works") = False := by rw [strE]; exact eq_false (by decide)
theorem nm_seen_wrong : (Str.ofString "seen" = Str.ofString "wrong") = False := by rw [strE]; exact eq_false (by decide)
theorem nm_sight_ask_cell : (Str.ofString "sight" = Str.ofString "ask_cell") = False := by rw [strE]; exact eq_false (by decide)
theorem nm_sight_divided : (Str.ofString "sight" = Str.ofString "divided") = False := by rw [strE]; exact eq_false (by decide)
theorem nm_sight_entered : (Str.ofString "sight" = Str.ofString "entered") = False := by rw [strE]; exact eq_false (by decide)
theorem nm_sight_kind : (Str.ofString "sight" = Str.ofString "kind") = False := by rw [strE]; exact eq_false (by decide)
theorem nm_sight_looked : (Str.ofString "sight" = Str.ofString "looked") = False := by rw [strE]; exact eq_false (by decide)
theorem nm_sight_looks : (Str.ofString "sight" = Str.ofString "looks") = False := by rw [strE]; exact eq_false (by decide)
theorem nm_sight_put_all : (Str.ofString "sight" = Str.ofString "put_all") = False := by rw [strE]; exact eq_false (by decide)
theorem nm_sight_say : (Str.ofString "sight" = Str.ofString "say") = False := by rw [strE]; exact eq_false (by decide)
theorem nm_sight_table : (Str.ofString "sight" = Str.ofString "table") = False := by rw [strE]; exact eq_false (by decide)
theorem nm_sight_told : (Str.ofString "sight" = Str.ofString "told") = False := by rw [strE]; exact eq_false (by decide)
theorem nm_sight_turned : (Str.ofString "sight" = Str.ofString "turned") = False := by rw [strE]; exact eq_false (by decide)
theorem nm_stand_begin : (Str.ofString "stand" = Str.ofString "begin") = False := by rw [strE]; exact eq_false (by decide)
theorem nm_stand_figures : (Str.ofString "stand" = Str.ofString "figures") = False := by rw [strE]; exact eq_false (by decide)
theorem nm_stand_great : (Str.ofString "stand" = Str.ofString "great") = False := by rw [strE]; exact eq_false (by decide)
theorem nm_stand_kind : (Str.ofString "stand" = Str.ofString "kind") = False := by rw [strE]; exact eq_false (by decide)
theorem nm_stand_left : (Str.ofString "stand" = Str.ofString "left") = False := by rw [strE]; exact eq_false (by decide)
theorem nm_stand_looks : (Str.ofString "stand" = Str.ofString "looks") = False := by rw [strE]; exact eq_false (by decide)
theorem nm_stand_numbers : (Str.ofString "stand" = Str.ofString "numbers") = False := by rw [strE]; exact eq_false (by decide)
theorem nm_stand_rest : (Str.ofString "stand" = Str.ofString "rest") = False := by rw [strE]; exact eq_false (by decide)
theorem nm_stand_tried : (Str.ofString "stand" = Str.ofString "tried") = False := by rw [strE]; exact eq_false (by decide)
theorem nm_stand_wide : (Str.ofString "stand" = Str.ofString "wide") = False := by rw [strE]; exact eq_false (by decide)
theorem nm_table_ask_cell : (Str.ofString "table" = Str.ofString "ask_cell") = False := by rw [strE]; exact eq_false (by decide)
theorem nm_table_divided : (Str.ofString "table" = Str.ofString "divided") = False := by rw [strE]; exact eq_false (by decide)
theorem nm_table_entered : (Str.ofString "table" = Str.ofString "entered") = False := by rw [strE]; exact eq_false (by decide)
theorem nm_table_kind : (Str.ofString "table" = Str.ofString "kind") = False := by rw [strE]; exact eq_false (by decide)
theorem nm_table_looked : (Str.ofString "table" = Str.ofString "looked") = False := by rw [strE]; exact eq_false (by decide)
theorem nm_table_looks : (Str.ofString "table" = Str.ofString "looks") = False := by rw [strE]; exact eq_false (by decide)
theorem nm_table_put_all : (Str.ofString "table" = Str.ofString "put_all") = False := by rw [strE]; exact eq_false (by decide)
theorem nm_table_say : (Str.ofString "table" = Str.ofString "say") = False := by rw [strE]; exact eq_false (by decide)
theorem nm_table_sight : (Str.ofString "table" = Str.ofString "sight") = False := by rw [strE]; exact eq_false (by decide)
theorem nm_table_told : (Str.ofString "table" = Str.ofString "told") = False := by rw [strE]; exact eq_false (by decide)
theorem nm_table_turned : (Str.ofString "table" = Str.ofString "turned") = False := by rw [strE]; exact eq_false (by decide)
theorem nm_told_ahead : (Str.ofString "told" = Str.ofString "ahead") = False := by rw [strE]; exact eq_false (by decide)
theorem nm_told_ended : (Str.ofString "told" = Str.ofString "ended") = False := by rw [strE]; exact eq_false (by decide)
theorem nm_told_figures : (Str.ofString "told" = Str.ofString "figures") = False := by rw [strE]; exact eq_false (by decide)
theorem nm_told_kind : (Str.ofString "told" = Str.ofString "kind") = False := by rw [strE]; exact eq_false (by decide)
theorem nm_told_last : (Str.ofString "told" = Str.ofString "last") = False := by rw [strE]; exact eq_false (by decide)
theorem nm_told_looks : (Str.ofString "told" = Str.ofString "looks") = False := by rw [strE]; exact eq_false (by decide)
theorem nm_told_sight : (Str.ofString "told" = Str.ofString "sight") = False := by rw [strE]; exact eq_false (by decide)
theorem nm_told_table : (Str.ofString "told" = Str.ofString "table") = False := by rw [strE]; exact eq_false (by decide)
theorem nm_top_look : (Str.ofString "top" = Str.ofString "look") = False := by rw [strE]; exact eq_false (by decide)
theorem nm_tried_figures : (Str.ofString "tried" = Str.ofString "figures") = False := by rw [strE]; exact eq_false (by decide)
theorem nm_tried_great : (Str.ofString "tried" = Str.ofString "great") = False := by rw [strE]; exact eq_false (by decide)
theorem nm_tried_kind : (Str.ofString "tried" = Str.ofString "kind") = False := by rw [strE]; exact eq_false (by decide)
theorem nm_tried_left : (Str.ofString "tried" = Str.ofString "left") = False := by rw [strE]; exact eq_false (by decide)
theorem nm_tried_looks : (Str.ofString "tried" = Str.ofString "looks") = False := by rw [strE]; exact eq_false (by decide)
theorem nm_tried_numbers : (Str.ofString "tried" = Str.ofString "numbers") = False := by rw [strE]; exact eq_false (by decide)
theorem nm_tried_stand : (Str.ofString "tried" = Str.ofString "stand") = False := by rw [strE]; exact eq_false (by decide)
theorem nm_tried_wide : (Str.ofString "tried" = Str.ofString "wide") = False := by rw [strE]; exact eq_false (by decide)
theorem nm_turned_kind : (Str.ofString "turned" = Str.ofString "kind") = False := by rw [strE]; exact eq_false (by decide)
theorem nm_turned_looks : (Str.ofString "turned" = Str.ofString "looks") = False := by rw [strE]; exact eq_false (by decide)
theorem nm_turned_sight : (Str.ofString "turned" = Str.ofString "sight") = False := by rw [strE]; exact eq_false (by decide)
theorem nm_turned_table : (Str.ofString "turned" = Str.ofString "table") = False := by rw [strE]; exact eq_false (by decide)
theorem nm_under_base : (Str.ofString "under" = Str.ofString "base") = False := by rw [strE]; exact eq_false (by decide)
theorem nm_under_below : (Str.ofString "under" = Str.ofString "below") = False := by rw [strE]; exact eq_false (by decide)
theorem nm_under_held : (Str.ofString "under" = Str.ofString "held") = False := by rw [strE]; exact eq_false (by decide)
theorem nm_under_put : (Str.ofString "under" = Str.ofString "put") = False := by rw [strE]; exact eq_false (by decide)
theorem nm_under_upper : (Str.ofString "under" = Str.ofString "upper") = False := by rw [strE]; exact eq_false (by decide)
theorem nm_upper_base : (Str.ofString "upper" = Str.ofString "base") = False := by rw [strE]; exact eq_false (by decide)
theorem nm_upper_below : (Str.ofString "upper" = Str.ofString "below") = False := by rw [strE]; exact eq_false (by decide)
theorem nm_upper_held : (Str.ofString "upper" = Str.ofString "held") = False := by rw [strE]; exact eq_false (by decide)
theorem nm_upper_put : (Str.ofString "upper" = Str.ofString "put") = False := by rw [strE]; exact eq_false (by decide)
theorem nm_upper_under : (Str.ofString "upper" = Str.ofString "under") = False := by rw [strE]; exact eq_false (by decide)
theorem nm_wide_begin : (Str.ofString "wide" = Str.ofString "begin") = False := by rw [strE]; exact eq_false (by decide)
theorem nm_wide_figures : (Str.ofString "wide" = Str.ofString "figures") = False := by rw [strE]; exact eq_false (by decide)
theorem nm_wide_great : (Str.ofString "wide" = Str.ofString "great") = False := by rw [strE]; exact eq_false (by decide)
theorem nm_wide_kind : (Str.ofString "wide" = Str.ofString "kind") = False := by rw [strE]; exact eq_false (by decide)
theorem nm_wide_left : (Str.ofString "wide" = Str.ofString "left") = False := by rw [strE]; exact eq_false (by decide)
theorem nm_wide_looks : (Str.ofString "wide" = Str.ofString "looks") = False := by rw [strE]; exact eq_false (by decide)
theorem nm_wide_numbers : (Str.ofString "wide" = Str.ofString "numbers") = False := by rw [strE]; exact eq_false (by decide)
theorem nm_wide_rest : (Str.ofString "wide" = Str.ofString "rest") = False := by rw [strE]; exact eq_false (by decide)
theorem nm_wide_stand : (Str.ofString "wide" = Str.ofString "stand") = False := by rw [strE]; exact eq_false (by decide)
theorem nm_wide_tried : (Str.ofString "wide" = Str.ofString "tried") = False := by rw [strE]; exact eq_false (by decide)
theorem nm_work_done : (Str.ofString "work" = Str.ofString "done") = False := by rw [strE]; exact eq_false (by decide)
theorem nm_work_kind : (Str.ofString "work" = Str.ofString "kind") = False := by rw [strE]; exact eq_false (by decide)
theorem nm_work_looks : (Str.ofString "work" = Str.ofString "looks") = False := by rw [strE]; exact eq_false (by decide)
theorem nm_work_rows : (Str.ofString "work" = Str.ofString "rows") = False := by rw [strE]; exact eq_false (by decide)
theorem nm_work_seen : (Str.ofString "work" = Str.ofString "seen") = False := by rw [strE]; exact eq_false (by decide)
theorem nm_work_works : (Str.ofString "work" = Str.ofString "works") = False := by rw [strE]; exact eq_false (by decide)
theorem nm_works_begin : (Str.ofString "works" = Str.ofString "begin") = False := by rw [strE]; exact eq_false (by decide)
theorem nm_works_begin_rows : (Str.ofString "works" = Str.ofString "begin_rows") = False := by rw [strE]; exact eq_false (by decide)
theorem nm_works_deeds : (Str.ofString "works" = Str.ofString "deeds") = False := by rw [strE]; exact eq_false (by decide)
theorem nm_works_done : (Str.ofString "works" = Str.ofString "done") = False := by rw [strE]; exact eq_false (by decide)
theorem nm_works_entries : (Str.ofString "works" = Str.ofString "entries") = False := by rw [strE]; exact eq_false (by decide)
theorem nm_works_go : (Str.ofString "works" = Str.ofString "go") = False := by rw [strE]; exact eq_false (by decide)
theorem nm_works_kind : (Str.ofString "works" = Str.ofString "kind") = False := by rw [strE]; exact eq_false (by decide)
theorem nm_works_looked : (Str.ofString "works" = Str.ofString "looked") = False := by rw [strE]; exact eq_false (by decide)
theorem nm_works_looks : (Str.ofString "works" = Str.ofString "looks") = False := by rw [strE]; exact eq_false (by decide)
theorem nm_works_put : (Str.ofString "works" = Str.ofString "put") = False := by rw [strE]; exact eq_false (by decide)
theorem nm_works_rest : (Str.ofString "works" = Str.ofString "rest") = False := by rw [strE]; exact eq_false (by decide)
theorem nm_works_row : (Str.ofString "works" = Str.ofString "row") = False := by rw [strE]; exact eq_false (by decide)
theorem nm_works_rows : (Str.ofString "works" = Str.ofString "rows") = False := by rw [strE]; exact eq_false (by decide)
theorem nm_works_seen : (Str.ofString "works" = Str.ofString "seen") = False := by rw [strE]; exact eq_false (by decide)
theorem nm_works_work : (Str.ofString "works" = Str.ofString "work") = False := by rw [strE]; exact eq_false (by decide)
theorem nm_works_wrong : (Str.ofString "works" = Str.ofString "wrong") = False := by rw [strE]; exact eq_false (by decide)
theorem nm_wrong_done : (Str.ofString "wrong" = Str.ofString "done") = False := by rw [strE]; exact eq_false (by decide)
theorem nm_wrong_kind : (Str.ofString "wrong" = Str.ofString "kind") = False := by rw [strE]; exact eq_false (by decide)
theorem nm_wrong_looks : (Str.ofString "wrong" = Str.ofString "looks") = False := by rw [strE]; exact eq_false (by decide)
theorem nm_wrong_rows : (Str.ofString "wrong" = Str.ofString "rows") = False := by rw [strE]; exact eq_false (by decide)
theorem nm_wrong_seen : (Str.ofString "wrong" = Str.ofString "seen") = False := by rw [strE]; exact eq_false (by decide)
theorem nm_wrong_works : (Str.ofString "wrong" = Str.ofString "works") = False := by rw [strE]; exact eq_false (by decide)
theorem sz1 : (decide (((1 : Nat) ≤ 1000)) = true) = True := by decide
theorem sz2 : (decide (((2 : Nat) ≤ 1000)) = true) = True := by decide
theorem sz3 : (decide (((3 : Nat) ≤ 1000)) = true) = True := by decide
theorem sz4 : (decide (((4 : Nat) ≤ 1000)) = true) = True := by decide
theorem sz5 : (decide (((5 : Nat) ≤ 1000)) = true) = True := by decide
theorem sz6 : (decide (((6 : Nat) ≤ 1000)) = true) = True := by decide
theorem sz7 : (decide (((7 : Nat) ≤ 1000)) = true) = True := by decide
theorem sz8 : (decide (((8 : Nat) ≤ 1000)) = true) = True := by decide
theorem sz9 : (decide (((9 : Nat) ≤ 1000)) = true) = True := by decide
theorem sz10 : (decide (((10 : Nat) ≤ 1000)) = true) = True := by decide
theorem sz11 : (decide (((11 : Nat) ≤ 1000)) = true) = True := by decide
theorem len1K {l : List (D × D)} (h : l.length ≤ 1000) : decide (l.length ≤ 1000) = true := decide_eq_true h
end Z
set_option Elab.async false
set_option linter.all false
set_option maxRecDepth 100000
namespace Z
open PySem L2
/-! ### expressions that may raise -/
inductive RX where
  | ok (d : D) (s : DS)
  | ex (x : Xc) (s : DS)
  | no
abbrev MX := DS → RX
def QX (K : Fg) (c : Ctx) (O : List Kd) (k : Kd) (F : Hp) (σ : St) (Q : VK) : RX → Prop
  | .ok d ds' => ∀ F' H' fps' v fpv, Same F F' → Rel K c O F' H' σ fps' ds' → Ow K F' H' k v d fpv → (∀ q ∈ fpv, F' q = none ∧ H' q ≠ none ∧ c.H0 q = none ∧ ∀ i, q ∉ fps' i) → fpv.Nodup → Q v H'
  | .ex x ds' => ∀ F' H' fps' cls dd, Same F F' → Rel K c O F' H' σ fps' ds' → ExOk K c.mg F' x cls dd → c.W cls dd σ H'
  | .no => False
structure DX (K : Fg) (c : Ctx) (O : List Kd) (k : Kd) (t : TE) (m : MX) : Prop where
  run : ∀ {F H : Hp} {σ : St} {fps : Nat → List Addr} {ds : DS}, Rel K c O F H σ fps ds → ∀ Q : VK, QX K c O k F σ Q (m ds) → t σ H Q
theorem QX.mono {K : Fg} {c : Ctx} {O : List Kd} {k : Kd} {F F' : Hp} {σ : St} {Q : VK} {r : RX} (s : Same F F') (h : QX K c O k F σ Q r) : QX K c O k F' σ Q r := by
  cases r with
  | ok d _ => exact fun F2 H2 fps2 v fpv s2 => h F2 H2 fps2 v fpv (s.trans s2)
  | ex _ _ => exact fun F2 H2 fps2 cls dd s2 => h F2 H2 fps2 cls dd (s.trans s2)
  | no => exact h
def xOf (m : M D) : MX := fun s => match m s with
  | .ok d s' => .ok d s'
  | .no => .no
def xCall (f : FD) (n : Nat) (ml : M (List D)) : MX := fun s => match ml s with
  | .ok xs s' => if xs.length = n then (match f xs with
    | .ok d _ => .ok d s'
    | .ex x _ => .ex x s'
    | .no => .no) else .no
  | .no => .no
def xCall1 (f : FD) (n j : Nat) (ml : M (List D)) : MX := fun s => match s[j]? with
  | some (some _) => (match ml s with
    | .ok xs s' => (match s'[j]? with
      | some (some e) => if xs.length = n then (match f (e :: xs) with
        | .ok d (e' :: _) => .ok d (s'.set j (some e'))
        | .ex x (e' :: _) => .ex x (s'.set j (some e'))
        | _ => .no) else .no
      | _ => .no)
    | .no => .no)
  | _ => .no
def xCallG (f : FD) (js : JS) (ml : M (List D)) : MX := fun s => match ml s with
  | .ok xs s' => (match fillG s' js xs with
    | some args => (match f args with
      | .ok d as => if as.length = js.length then .ok d (backG js as s') else .no
      | .ex x as => if as.length = js.length then .ex x (backG js as s') else .no
      | .no => .no)
    | none => .no)
  | .no => .no
def xMeth (f : FD) (m : Str) (n j : Nat) (ml : M (List D)) : MX := fun s => match look s j with
  | some e => match noFd m e with
    | some _ => xCall1 f n j ml s
    | none => .no
  | none => .no
def xOp (f : D → D → Option D) (a : MX) (b : M D) : MX := fun s => match a s with
  | .ok x s1 => (match b s1 with
    | .ok y s2 => (match f x y with
      | some z => .ok z s2
      | none => .no)
    | .no => .no)
  | .ex x s1 => .ex x s1
  | .no => .no
def xTup1 (a : MX) : MX := fun s => match a s with
  | .ok x s1 => .ok (.tuple [x]) s1
  | .ex x s1 => .ex x s1
  | .no => .no
def xIf (t : M Bool) (a b : MX) : MX := fun s => match t s with
  | .ok true s1 => a s1
  | .ok false s1 => b s1
  | .no => .no
section
variable {K : Fg} {c : Ctx} {O ps : List Kd} {rk k : Kd} {tl : TA} {ml : M (List D)} {mg : Str → Option Value} {f : FD} {W : WX} {te ta tb : TE} {m : M D} {mx my : MX}
theorem DO.x (h : DO K c O k te m) : DX K c O k te (xOf m) := ⟨fun {F H σ fps ds} r Q q => by
  unfold xOf at q
  cases e : m ds with
  | no => rw [e] at q; exact q.elim
  | ok d s' => rw [e] at q; exact h.run r e _ q⟩
theorem DE.x (h : DE K c O te m) : DX K c O .sh te (xOf m) := h.o.x
theorem x_call (hW : c.W = W) (hmg : c.mg = mg) (h : DA K c O tl ml) (hs : ps.all (· == .sh) = true := by rfl) : DX K c O rk (tCallS (spD K mg f ps rk) (WE W) tl) (xCall f ps.length ml) := ⟨fun {F H σ fps ds} r Q q => by
  unfold xCall at q
  cases e : ml ds with
  | no => rw [e] at q; exact q.elim
  | ok xs s1 =>
    rw [e] at q
    dsimp only at q
    split at q
    · rename_i hl
      refine h.run r e _ fun F1 H1 fps1 vs sF r1 al => ?_
      cases hf : f xs with
      | no => rw [hf] at q; exact q.elim
      | ok d as =>
        rw [hf] at q
        refine spD_ok (args_sh hs r1.sub al hl) hf fun F' H' fps' v fpv o => ?_
        refine q F' H' fps1 v fpv (sF.trans o.ext) (r1.call0 o.toOutB) o.res (fun q hq => ?_) o.rnd
        obtain ⟨h1, h2, h3, h4⟩ := o.roff0 mv_nil q hq
        exact ⟨h1, h2, r1.live q h3, fun i hi => (r1.off i q hi).2.1 h3⟩
      | ex x as =>
        rw [hf] at q
        refine spD_ex (args_sh hs r1.sub al hl) hf fun F' H' fps' cls dd o xo => ?_
        have := q F' H' fps1 cls dd (sF.trans o.ext) (r1.call0 o) (by rw [hmg]; exact xo)
        rw [hW] at this
        exact this
    · exact q.elim⟩
theorem x_call1 (j : Nat) (hW : c.W = W) (hmg : c.mg = mg) (h : DA K c O tl ml) (hk : O.getD j .sh = k ∨ O.getD j .sh = .pm k) (hs : ps.all (· == .sh) = true := by rfl) : DX K c O rk (tCallS (spD K mg f (.pm k :: ps) rk) (WE W) (tCons (tVar j) tl)) (xCall1 f ps.length j ml) := ⟨fun {F H σ fps ds} r Q q => by
  unfold xCall1 at q
  split at q
  · rename_i e0 he0
    obtain ⟨w, hw, _⟩ := r.slots j _ he0
    cases e : ml ds with
    | no => rw [e] at q; exact q.elim
    | ok xs s1 =>
      rw [e] at q
      dsimp only at q
      refine ⟨w, hw, ?_⟩
      split at q
      · rename_i e2 he2
        split at q
        · rename_i hl
          refine h.run r e _ fun F1 H1 fps1 vs sF r1 al => ?_
          show spD K mg f (k.pm :: ps) rk (w :: vs) H1 Q _
          obtain ⟨w1, hw1, ow⟩ := r1.slots j _ he2
          rw [hw] at hw1
          cases hw1
          have ow' : Ow K F1 H1 k w e2 (fps1 j) := by
            rcases hk with h | h
            · rw [h] at ow; exact ow
            · rw [h] at ow; exact ow
          have A := args_o hs r1.sub al hl ow' (fun q hq => ⟨(r1.off j q hq).1, (r1.off j q hq).2.1⟩) (r1.nd j)
          split at q
          · rename_i d0 e' as hf
            refine spD_ok A hf fun F' H' fps' v fpv o => ?_
            refine q F' H' _ v fpv (sF.trans o.ext) (r1.call1 o.toOutB he2 hw hk) o.res (fun q hq => ?_) o.rnd
            obtain ⟨h1, h2, h3, h4⟩ := o.roff0 mv_one q hq
            refine ⟨h1, h2, r1.live q h3, fun i hi => ?_⟩
            by_cases z : i = j
            · simp only [z, if_pos] at hi
              exact h4 0 rfl hi
            · simp only [if_neg z] at hi
              exact (r1.off i q hi).2.1 h3
          · rename_i x e' as hf
            refine spD_ex A hf fun F' H' fps' cls dd o xo => ?_
            have := q F' H' _ cls dd (sF.trans o.ext) (r1.call1 o he2 hw hk) (by rw [hmg]; exact xo)
            rw [hW] at this
            exact this
          · exact q.elim
        · exact q.elim
      · exact q.elim
  · exact q.elim⟩
theorem x_callG {js : JS} (hW : c.W = W) (hmg : c.mg = mg) (h : DAG K c O js tl ml) (jo : JOk O ps js) (nd : (slG js).Nodup := by decide) : DX K c O rk (tCallS (spD K mg f ps rk) (WE W) tl) (xCallG f js ml) := ⟨fun {F H σ fps ds} r Q q => by
  unfold xCallG at q
  cases e : ml ds with
  | no => rw [e] at q; exact q.elim
  | ok xs s1 =>
    rw [e] at q
    dsimp only at q
    split at q
    · rename_i args ha
      refine h.run r e _ fun F1 H1 fps1 vs sF r1 al => ?_
      have A := argR_G r1 jo al ha nd
      split at q
      · rename_i d0 as hf
        split at q
        · rename_i hl
          refine spD_ok A hf fun F' H' gps' v fpv o => ?_
          exact q F' H' _ v fpv (sF.trans o.ext) (r1.callG jo al ha nd hl o.toOutB) o.res (fun q hq => callG_new r1 jo o hq) o.rnd
        · exact q.elim
      · rename_i x as hf
        split at q
        · rename_i hl
          refine spD_ex A hf fun F' H' gps' cls dd o xo => ?_
          have := q F' H' _ cls dd (sF.trans o.ext) (r1.callG jo al ha nd hl o) (by rw [hmg]; exact xo)
          rw [hW] at this
          exact this
        · exact q.elim
      · exact q.elim
    · exact q.elim⟩
def tMethS (C : Addr) (m : Str) (sp : Sp) (E : St → XK) (ta : TE) (t : TA) : TE := fun σ H Q => ta σ H fun x H1 => ∃ a dx fs, x = .ref a ∧ H1 a = some (.ins C dx fs) ∧ fs.lookup m = none ∧ t σ H1 fun vs H2 => sp (x :: vs) H2 Q (E σ)
theorem x_meth (j : Nat) {C : Addr} {m cls : Str} (hW : c.W = W) (hmg : c.mg = mg) (h : DA K c O tl ml) (hk : O.getD j .sh = k ∨ O.getD j .sh = .pm k) (hob : isOb k = true) (hc : clsOf k = [(cls, C)]) (hs : ps.all (· == .sh) = true := by rfl) : DX K c O rk (tMethS C m (spD K mg f (.pm k :: ps) rk) (WE W) (tVar j) tl) (xMeth f m ps.length j ml) := ⟨fun {F H σ fps ds} r Q q => by
  unfold xMeth at q
  split at q
  · rename_i e0 he0
    split at q
    · rename_i u hn
      obtain ⟨w, hw, rest⟩ := (x_call1 (rk := rk) (mg := mg) (f := f) j hW hmg h hk hs).run r Q q
      obtain ⟨w', hw', ow⟩ := r.slots j e0 (look_some he0)
      rw [hw] at hw'
      cases hw'
      have hu : unpm (O.getD j .sh) = k := by
        rcases hk with h | h
        · rw [h]; cases k <;> first | rfl | cases hob
        · rw [h]; rfl
      obtain ⟨a, C', dx, cls', fs, es, gs, rfl, rfl, hp, hdx, hcls, hfp, al⟩ := ob_ow (by rw [hu]; exact hob) ow
      rw [hu, hc] at hcls
      have hC : C' = C := by
        rw [List.lookup_cons] at hcls
        split at hcls
        · exact (Option.some.inj hcls).symm
        · cases hcls
      subst hC
      have hl : fldD m es = none := by
        unfold noFd at hn
        dsimp only [dof] at hn
        have : fldD m ((PyData.none, PyData.str cls') :: es) = fldD m es := rfl
        rw [this] at hn
        cases z : fldD m es with
        | none => rfl
        | some y => rw [z] at hn; cases hn
      exact ⟨_, hw, a, dx, fs, rfl, hp, al.none hl, rest⟩
    · exact q.elim
  · exact q.elim⟩
theorem x_op {r : R2} {g : D → D → Option D} (ho : OpG K r g) (ha : DX K c O .sh ta mx) (hb : DE K c O tb m) : DX K c O .sh (tOp r ta tb) (xOp g mx m) := ⟨fun {F H σ fps ds} rl Q q => by
  refine ha.run rl _ ?_
  unfold xOp at q
  cases e : mx ds with
  | no => rw [e] at q; exact q.elim
  | ex x s1 => rw [e] at q; exact q
  | ok x s1 =>
    rw [e] at q
    dsimp only at q
    refine fun F1 H1 fps1 v fpv sF r1 ow _ _ => ?_
    cases e2 : m s1 with
    | no => rw [e2] at q; exact q.elim
    | ok y s2 =>
      rw [e2] at q
      dsimp only at q
      refine hb.run r1 e2 _ fun F2 H2 fps2 w sF2 r2 dp => ?_
      split at q
      · rename_i z hz
        refine ho F2 H2 v w x y z r2.sub (.inl (dp_mono sF2 ow.2)) (.inl dp) hz _ fun F3 H3 u gr du => ?_
        obtain ⟨r3, s3⟩ := gr.rel r2
        exact q F3 H3 fps2 u [] ((sF.trans sF2).trans s3) r3 ⟨rfl, du⟩ (fun q hq => absurd hq (by simp)) (by simp)
      · exact q.elim⟩
theorem x_tup1 (ha : DX K c O .sh ta mx) : DX K c O .sh (tTup (tCons ta tNil)) (xTup1 mx) := ⟨fun {F H σ fps ds} rl Q q => by
  refine ha.run rl _ ?_
  unfold xTup1 at q
  cases e : mx ds with
  | no => rw [e] at q; exact q.elim
  | ex x s1 => rw [e] at q; exact q
  | ok x s1 =>
    rw [e] at q
    refine fun F1 H1 fps1 v fpv sF r1 ow _ _ => ⟨by show 1 ≤ sizeLine; decide, fun p hp => ?_⟩
    have hF := (r1.fresh hp).1
    have sU : Same F1 (upd F1 p (.tup [v])) := same_upd hF
    exact q (upd F1 p (.tup [v])) _ fps1 (.ref p) [] (sF.trans sU) (r1.alloc hp _) ⟨rfl, .tup (SqT.of upd_same) (.cons (dp_mono sU ow.2) .nil)⟩ (fun q hq => absurd hq (by simp)) (by simp)⟩
theorem x_if {tt : TT} {mt : M Bool} (ht : DT K c O tt mt) (ha : DX K c O k ta mx) (hb : DX K c O k tb my) : DX K c O k (tIf tt ta tb) (xIf mt mx my) := ⟨fun {F H σ fps ds} rl Q q => by
  unfold xIf at q
  cases e : mt ds with
  | no => rw [e] at q; exact q.elim
  | ok b s1 =>
    rw [e] at q
    refine ht.run rl e _ fun F1 H1 fps1 sF r1 => ?_
    cases b with
    | true => exact iteT (ha.run r1 Q (q.mono sF))
    | false => exact iteF (hb.run r1 Q (q.mono sF))⟩
/-- what was made for one's own is read alone -/
theorem DX.e (h : DX K c O (.ls .sh) te mx) : DX K c O .sh te mx := ⟨fun {F H σ fps ds} r Q q => by
  refine h.run r _ ?_
  cases e : mx ds with
  | no => rw [e] at q; exact q
  | ex x s1 => rw [e] at q; exact q
  | ok d s1 =>
    rw [e] at q
    refine fun F1 H1 fps1 v fpv sF r1 ow hf nd => ?_
    obtain ⟨p, xs, es, rfl, rfl, hp, rfl, al⟩ := ow_ls rfl ow
    obtain ⟨h1, h2, h3, h4⟩ := hf p (by simp)
    have s2 : Same F1 (upd F1 p (.lst xs)) := same_upd h1
    refine q (upd F1 p (.lst xs)) H1 fps1 _ [] (sF.trans s2) ⟨fun b o e => ?_, r1.base.trans s2, r1.keep, r1.live, fun b o e => ?_, fun i d hd => ?_, fun i q hq => ?_, r1.nd, r1.dj, r1.par, r1.len⟩ ⟨rfl, frz_sh hp al h1⟩ (fun q hq => absurd hq (by simp)) (by simp)
    · by_cases hb : b = p
      · subst hb; rw [upd_same] at e; rw [hp]; exact e
      · rw [upd_ne hb] at e; exact r1.sub b o e
    · by_cases hb : b = p
      · subst hb; exact .inr h3
      · rw [upd_ne hb] at e; exact r1.new b o e
    · obtain ⟨u, hu, w⟩ := r1.slots i d hd
      exact ⟨u, hu, ow_mono s2 w fun _ _ => rfl⟩
    · have hb : q ≠ p := fun z => by subst z; exact h4 i hq
      rw [upd_ne hb]
      exact r1.off i q hq⟩
end
/-! ### statements that may raise -/
def sSetX (i : Nat) (m : MX) : MS := fun s => match m s with
  | .ok d s' => .nx (s'.set i (some d))
  | .ex x s' => .ex x s'
  | .no => .no
def sDropX (m : MX) : MS := fun s => match m s with
  | .ok _ s' => .nx s'
  | .ex x s' => .ex x s'
  | .no => .no
def sRetX (m : MX) : MS := fun s => match m s with
  | .ok d s' => .rt d s'
  | .ex x s' => .ex x s'
  | .no => .no
def sAsgX (m : MX) (g : MG) : MS := fun s => match m s with
  | .ok d s' => (match g d s' with
    | some s2 => .nx s2
    | none => .no)
  | .ex x s' => .ex x s'
  | .no => .no
def sAsgTX (is : List Nat) (m : MX) : MS := fun s => match m s with
  | .ok d s' => (match tof d with
    | some xs => if xs.length = is.length then .nx (setsD is xs s') else .no
    | none => .no)
  | .ex x s' => .ex x s'
  | .no => .no
def sRaise (x : Str) : MS := fun s => .ex ⟨x, []⟩ s
section
variable {K : Fg} {c : Ctx} {Ob O O' : List Kd} {k : Kd} {te : TE} {mx : MX}
theorem c_setX (i : Nat) (h : DX K c O k te mx) (hox : ∀ o, c.Ox = some o → O = o) (hi : i < O.length := by first | decide | exact of_decide_eq_true rfl) (hp : isPm O[i]? = false := by rfl) : DC K c Ob O (tAsg te (gName i)) (sSetX i mx) (O.set i k) := ⟨fun {F H σ fps ds} r E p => by
  unfold sSetX at p
  refine h.run r _ ?_
  cases e : mx ds with
  | no => rw [e] at p; exact p.elim
  | ok d s' =>
    rw [e] at p
    exact fun F1 H1 fps1 v fpv s1 r1 ow hf nd => p F1 H1 _ _ s1 (r1.put hi hp ow (fun q hq => ⟨(hf q hq).1, (hf q hq).2.1, (hf q hq).2.2.1, fun j _ => (hf q hq).2.2.2 j⟩) nd)
  | ex x s' =>
    rw [e] at p
    exact fun F1 H1 fps1 cls dd s1 r1 xo => p F1 H1 σ fps1 O cls dd hox s1 r1 xo⟩
theorem c_dropX (h : DX K c O k te mx) (hox : ∀ o, c.Ox = some o → O = o) : DC K c Ob O (tDrop te) (sDropX mx) O := ⟨fun {F H σ fps ds} r E p => by
  unfold sDropX at p
  refine h.run r _ ?_
  cases e : mx ds with
  | no => rw [e] at p; exact p.elim
  | ok d s' => rw [e] at p; exact fun F1 H1 fps1 v fpv s1 r1 ow hf nd => p F1 H1 σ fps1 s1 r1
  | ex x s' => rw [e] at p; exact fun F1 H1 fps1 cls dd s1 r1 xo => p F1 H1 σ fps1 O cls dd hox s1 r1 xo⟩
theorem c_retX (h : DX K c O k te mx) (hk : c.rk = k) (hox : ∀ o, c.Ox = some o → O = o) : DC K c Ob O (tRet te) (sRetX mx) O' := ⟨fun {F H σ fps ds} r E p => by
  unfold sRetX at p
  refine h.run r _ ?_
  cases e : mx ds with
  | no => rw [e] at p; exact p.elim
  | ok d s' =>
    rw [e] at p
    refine fun F1 H1 fps1 v fpv s1 r1 ow hf nd => p F1 H1 σ fps1 O v fpv s1 r1 (by rw [hk]; exact ow) (fun q hq => ?_) nd
    obtain ⟨h1, h2, h3, h4⟩ := hf q hq
    exact ⟨h1, h2, h3, fun i _ => h4 i⟩
  | ex x s' => rw [e] at p; exact fun F1 H1 fps1 cls dd s1 r1 xo => p F1 H1 σ fps1 O cls dd hox s1 r1 xo⟩
theorem c_asgX {g : TG} {mg : MG} (h : DX K c O .sh te mx) (hg : DG K c O g mg) (hox : ∀ o, c.Ox = some o → O = o) : DC K c Ob O (tAsg te g) (sAsgX mx mg) O := ⟨fun {F H σ fps ds} r E p => by
  unfold sAsgX at p
  refine h.run r _ ?_
  cases e : mx ds with
  | no => rw [e] at p; exact p.elim
  | ok d s' =>
    rw [e] at p
    dsimp only at p
    refine fun F1 H1 fps1 w fpv s1 r1 ow hf nd => ?_
    split at p
    · rename_i s2 hs
      exact hg.run r1 ow.2 hs _ fun σ2 fps2 r2 => p F1 H1 σ2 fps2 s1 r2
    · exact p.elim
  | ex x s' => rw [e] at p; exact fun F1 H1 fps1 cls dd s1 r1 xo => p F1 H1 σ fps1 O cls dd hox s1 r1 xo⟩
/-- raise X('..'), X without an own __init__ -/
theorem c_raise {W : WX} {x : Str} {C : Addr} (hW : c.W = W) (hmg : c.mg x = some (.ref C)) (hox : ∀ o, c.Ox = some o → O = o) : DC K c Ob O (fun _ σ H => (fun (_ : St) (H : Hp) (Q : XK) => Q (.ref C) none H) σ H fun cls d H' => W cls d σ H') (sRaise x) O' := ⟨fun {F H σ fps ds} r E p => by
  have := p F H σ fps O (.ref C) none hox (Same.refl _) r ⟨hmg, .inl ⟨rfl, rfl⟩⟩
  rw [hW] at this
  exact this⟩
end
end Z
set_option Elab.async false
set_option linter.all false
set_option maxRecDepth 100000
namespace Z
open PySem L2
/-! ### exceptions that have fields -/
def oexB (K : Fg) (C : Addr) : Bool := match K.lookup C with
  | some ⟨.type t, _, .cls cd, sl⟩ => decide (t = "type") && (match cd.mro, sl.toList with
    | .ref C' :: bm, [_, _, _, _, some (.builtin n), _] => decide (C' = C) && (decide (n = "ValueError.__new__") && (!cd.hasDel && (cd.hasDict && PySem.HandSPX.refsVE bm)))
    | _, _ => false) && (decide (PySem.W.findIn K (.ref C) "__setattr__" = some (some (.builtin "object.__setattr__"))) && (decide (PySem.W.subIn K (.ref C) (.type "BaseException") = some true) && (decide (PySem.W.typeIn K (.ref C) = some (.type "type")) && PySem.W.keepIn K (.ref C))))
  | _ => false
theorem oexB_ok {K : Fg} {C : Addr} (h : oexB K C = true) : OexC K C := by
  unfold oexB at h
  split at h
  · rename_i t dd cd sl ho
    simp only [Bool.and_eq_true] at h
    obtain ⟨⟨h1, h2⟩, h3, h4, h5, h6⟩ := h
    have h1 := of_decide_eq_true h1
    subst h1
    split at h2
    · rename_i C' bm k0 k1 k2 k3 n k5 hm hs
      simp only [Bool.and_eq_true, Bool.not_eq_true'] at h2
      obtain ⟨e1, e2, e3, e4, e5⟩ := h2
      have e1 := of_decide_eq_true e1
      have e2 := of_decide_eq_true e2
      subst e1 e2
      obtain ⟨nm, bs, mro, ns, qn, hd, sn, sub, ab, col, del⟩ := cd
      dsimp only at hm e3 e4
      subst hm e3 e4
      have hsl : sl = #[k0, k1, k2, k3, some (.builtin "ValueError.__new__"), k5] := by
        obtain ⟨l⟩ := sl
        have : l = _ := hs
        rw [this]
      subst hsl
      exact ⟨⟨nm, qn, ns, bs, bm, sn, sub, ab, col, dd, k0, k1, k2, k3, k5, ho, e5⟩, of_decide_eq_true h3, of_decide_eq_true h4, of_decide_eq_true h5, h6⟩
    · cases h2
  · cases h
/-- __init__(self, f): self.f = f -/
def spI1 (C : Addr) (f : Str) : Sp := fun vs H Q _ => ∃ (a : Addr) (y : V), vs = [.ref a, y] ∧ H a = some (exo a C none) ∧ ∀ dx, H dx = none → dx ≠ a → Q .non (upd (upd H dx (exd dx [(f, y)])) a (exo a C (some dx)))
def spI2 (C : Addr) (f g : Str) : Sp := fun vs H Q _ => ∃ (a : Addr) (y z : V), vs = [.ref a, y, z] ∧ H a = some (exo a C none) ∧ ∀ dx, H dx = none → dx ≠ a → Q .non (upd (upd (upd H dx (exd dx [(f, y)])) a (exo a C (some dx))) dx (exd dx [(g, z), (f, y)]))
section
variable {P : Program} {w : World} {K : Fg} {mg : Str → Option Value} {base : Heap} {x y f g : Str} {st : Stmt} {fa C : Addr} {fd : FuncData} {p1 p2 p3 p4 q1 q2 q3 q4 : Pos}
theorem okI1 (F : FunD K x y (defArgs st) (defBody st) (defScope st) [] [] fa fd) (S : FnScope ["self", f] ["self", f] (defScope st)) (hb : defBody st = [.Assign [.Attribute (.Name "self" p1) f p2] (.Name f p3) p4]) (T : OexC K C) (hf : PySem.W.findIn K (.ref C) f = some none)
    (v0 : Vis (defScope st) "self") (v1 : Vis (defScope st) f) (n1 : (f == ("__debug__" : Str)) = false) (n2 : (f == ("__classdict__" : Str)) = false) : FnOk P w K mg base CX0 1 fa fd ["self", f] (spI1 C f) := by
  refine F.ok S (fun vs H Q E q => by obtain ⟨a, y, rfl, _⟩ := q; rfl) (fun cdv A outer s H vs Q E hr q => ?_)
  rw [hb]
  refine ⟨_, pss_one (ps_ost (pe_var (i := 0) rfl v0) (pe_var (i := 1) rfl v1 n1 n2)), ?_⟩
  obtain ⟨a, y, rfl, ha, q⟩ := q
  exact ⟨y, rfl, .ref a, rfl, a, C, rfl, T, hf, .inl ⟨ha, fun dx h1 h2 => q dx h1 h2⟩⟩
theorem okI2 (F : FunD K x y (defArgs st) (defBody st) (defScope st) [] [] fa fd) (S : FnScope ["self", f, g] ["self", f, g] (defScope st))
    (hb : defBody st = [.Assign [.Attribute (.Name "self" p1) f p2] (.Name f p3) p4, .Assign [.Attribute (.Name "self" q1) g q2] (.Name g q3) q4]) (T : OexC K C) (hf : PySem.W.findIn K (.ref C) f = some none) (hg : PySem.W.findIn K (.ref C) g = some none)
    (v0 : Vis (defScope st) "self") (v1 : Vis (defScope st) f) (v2 : Vis (defScope st) g) (n1 : (f == ("__debug__" : Str)) = false) (n2 : (f == ("__classdict__" : Str)) = false) (n3 : (g == ("__debug__" : Str)) = false) (n4 : (g == ("__classdict__" : Str)) = false) : FnOk P w K mg base CX0 1 fa fd ["self", f, g] (spI2 C f g) := by
  refine F.ok S (fun vs H Q E q => by obtain ⟨a, y, z, rfl, _⟩ := q; rfl) (fun cdv A outer s H vs Q E hr q => ?_)
  rw [hb]
  refine ⟨_, pss_cons (ps_ost (pe_var (i := 0) rfl v0) (pe_var (i := 1) rfl v1 n1 n2)) (pss_one (ps_ost (pe_var (i := 0) rfl v0) (pe_var (i := 2) rfl v2 n3 n4))), ?_⟩
  obtain ⟨a, y, z, rfl, ha, q⟩ := q
  refine ⟨y, rfl, .ref a, rfl, a, C, rfl, T, hf, .inl ⟨ha, fun dx h1 h2 => ?_⟩⟩
  exact ⟨z, rfl, .ref a, rfl, a, C, rfl, T, hg, .inr ⟨dx, [(f, y)], upd_same, by rw [upd_ne h2, upd_same], by show 1 ≤ 900; decide, q dx h1 h2⟩⟩
end
theorem mkI_end {H : Hp} {a d : Addr} {o1 : HO} {fs : List (Str × V)} {H2 : Hp} (ha : H a = none) (hda : d ≠ a) (h : ∀ b, b ≠ a → b ≠ d → H2 b = H b) : upd (del H2 a) d o1 = upd H d o1 := by
  funext b
  by_cases hb : b = d
  · subst hb; rw [upd_same, upd_same]
  · rw [upd_ne hb, upd_ne hb]
    by_cases hb2 : b = a
    · subst hb2; rw [del_same, ha]
    · rw [del_ne hb2, h b hb2 hb]
def sRaiseF (x : Str) (fs : List Str) (ml : M (List D)) : MS := fun s => match ml s with
  | .ok vs s' => if vs.length = fs.length then .ex ⟨x, (fs.zip vs).reverse⟩ s' else .no
  | .no => .no
section
variable {K : Fg} {c : Ctx} {Ob O O' : List Kd} {tl : TA} {ml : M (List D)} {W : WX} {x f g : Str} {C : Addr}
theorem c_raise1 (hW : c.W = W) (hmg : c.mg x = some (.ref C)) (hox : ∀ o, c.Ox = some o → O = o) (h : DA K c O tl ml) : DC K c Ob O (fun _ σ H => tMkO C (spI1 C f) [] tl σ H fun cls d H' => W cls d σ H') (sRaiseF x [f] ml) O' := ⟨fun {F H σ fps ds} r E p => by
  unfold sRaiseF at p
  cases e : ml ds with
  | no => rw [e] at p; exact p.elim
  | ok vs s' =>
    rw [e] at p
    dsimp only at p
    split at p
    · rename_i hl
      refine h.run r e _ fun F1 H1 fps1 ws s1 r1 al => ?_
      have hlw := dpa_len al
      obtain ⟨d1, rfl⟩ := List.length_eq_one_iff.mp (show vs.length = 1 from hl)
      cases al with
      | @cons y _ _ _ dp al =>
        cases al
        refine ⟨by show 1 ≤ 1000; decide, fun a ha => ⟨a, y, rfl, upd_same, fun dx hdx hda => ⟨rfl, dx, _, upd_same, by rw [upd_ne hda, upd_same], ?_, ?_⟩⟩⟩
        · rw [upd_ne hda] at hdx; exact hdx
        · rw [upd_ne hda] at hdx
          rw [mkI_end (fs := [(f, y)]) ha hda fun b h1 h2 => by rw [upd_ne h1, upd_ne h2, upd_ne h1]]
          have r2 := r1.alloc hdx (.xd [(f, y)])
          have sU : Same F1 (upd F1 dx (.xd [(f, y)])) := same_upd (r1.fresh hdx).1
          have := p _ _ σ fps1 O (.ref C) (some dx) hox (s1.trans sU) r2 ⟨hmg, .inr ⟨dx, [(f, y)], rfl, upd_same, .cons (dp_mono sU dp) .nil⟩⟩
          rw [hW] at this
          exact this
    · exact p.elim⟩
theorem c_raise2 (hW : c.W = W) (hmg : c.mg x = some (.ref C)) (hox : ∀ o, c.Ox = some o → O = o) (h : DA K c O tl ml) : DC K c Ob O (fun _ σ H => tMkO C (spI2 C f g) [] tl σ H fun cls d H' => W cls d σ H') (sRaiseF x [f, g] ml) O' := ⟨fun {F H σ fps ds} r E p => by
  unfold sRaiseF at p
  cases e : ml ds with
  | no => rw [e] at p; exact p.elim
  | ok vs s' =>
    rw [e] at p
    dsimp only at p
    split at p
    · rename_i hl
      refine h.run r e _ fun F1 H1 fps1 ws s1 r1 al => ?_
      obtain ⟨d1, d2, rfl⟩ : ∃ d1 d2, vs = [d1, d2] := by
        match vs, hl with
        | [d1, d2], _ => exact ⟨d1, d2, rfl⟩
      cases al with
      | @cons y _ _ _ dp al =>
        cases al with
        | @cons z _ _ _ dq al =>
        cases al
        refine ⟨by show 2 ≤ 1000; decide, fun a ha => ⟨a, y, z, rfl, upd_same, fun dx hdx hda => ⟨rfl, dx, _, by rw [upd_ne (Ne.symm hda), upd_same], upd_same, ?_, ?_⟩⟩⟩
        · rw [upd_ne hda] at hdx; exact hdx
        · rw [upd_ne hda] at hdx
          rw [mkI_end (fs := [(g, z), (f, y)]) ha hda fun b h1 h2 => by rw [upd_ne h2, upd_ne h1, upd_ne h2, upd_ne h1]]
          have r2 := r1.alloc hdx (.xd [(g, z), (f, y)])
          have sU : Same F1 (upd F1 dx (.xd [(g, z), (f, y)])) := same_upd (r1.fresh hdx).1
          have := p _ _ σ fps1 O (.ref C) (some dx) hox (s1.trans sU) r2 ⟨hmg, .inr ⟨dx, [(g, z), (f, y)], rfl, upd_same, .cons (dp_mono sU dq) (.cons (dp_mono sU dp) .nil)⟩⟩
          rw [hW] at this
          exact this
    · exact p.elim⟩
end
/-! ### try -/
section
variable {K : Fg} {c : Ctx} {O O1 : List Kd} {F H : Hp} {σ : St} {fps : Nat → List Addr} {ds : DS}
def Ctx.wish (c : Ctx) (W : WX) (o : Option (List Kd)) : Ctx := { c with W := W, Ox := o }
def Ctx.base (c : Ctx) (F : Hp) : Ctx := { c with F0 := F }
theorem Rel.wish (r : Rel K c O F H σ fps ds) (W : WX) (o : Option (List Kd)) : Rel K (c.wish W o) O F H σ fps ds := ⟨r.sub, r.base, r.keep, r.live, r.new, r.slots, r.off, r.nd, r.dj, r.par, r.len⟩
theorem Rel.unwish {W : WX} {o : Option (List Kd)} (r : Rel K (c.wish W o) O F H σ fps ds) : Rel K c O F H σ fps ds := ⟨r.sub, r.base, r.keep, r.live, r.new, r.slots, r.off, r.nd, r.dj, r.par, r.len⟩
theorem Rel.ground (r : Rel K c O F H σ fps ds) : Rel K (c.base F) O F H σ fps ds := ⟨r.sub, Same.refl _, r.keep, r.live, fun _ _ e => .inl e, r.slots, r.off, r.nd, r.dj, r.par, r.len⟩
theorem Rel.unground {F2 H2 : Hp} {σ2 : St} {fps2 : Nat → List Addr} {ds2 : DS} (r : Rel K c O F H σ fps ds) (r2 : Rel K (c.base F) O1 F2 H2 σ2 fps2 ds2) : Rel K c O1 F2 H2 σ2 fps2 ds2 :=
  ⟨r2.sub, r.base.trans r2.base, r2.keep, r2.live, fun b o e => (r2.new b o e).elim (r.new b o) .inr, r2.slots, r2.off, r2.nd, r2.dj, r2.par, r2.len⟩
/-- slot i goes -/
theorem Rel.gone (r : Rel K c O F H σ fps ds) (i : Nat) {σ' : St} (hσ : ∀ j, j ≠ i → σ'[j]? = σ[j]?) (hl : σ'.length = σ.length) (hp : isPm O[i]? = false) : Rel K c (O.set i .sh) F H σ' (fun j => if j = i then [] else fps j) (ds.set i none) := by
  have hne : ∀ j k', c.pk j = some k' → j ≠ i := fun j k' hjk z => by
    subst z
    rw [(r.par j k' hjk).1] at hp
    exact absurd hp (by simp [isPm])
  refine ⟨r.sub, r.base, r.keep, r.live, r.new, fun j e hj => ?_, fun j q hq => ?_, fun j => ?_, fun j l hjl q hq hq' => ?_, fun j k' h => ?_, by rw [List.length_set, hl]; exact r.len⟩
  · have z : j ≠ i := fun z => by
      subst z
      by_cases hl : j < ds.length
      · rw [List.getElem?_set_self hl] at hj; cases hj
      · rw [List.getElem?_eq_none (by rw [List.length_set]; omega)] at hj; cases hj
    rw [List.getElem?_set_ne (Ne.symm z)] at hj
    obtain ⟨u, hu, w⟩ := r.slots j e hj
    refine ⟨u, (hσ j z).trans hu, ?_⟩
    rw [getD_set_ne z]
    simp only [if_neg z]
    exact w
  · by_cases z : j = i
    · simp only [z, if_pos] at hq; exact absurd hq (by simp)
    · simp only [if_neg z] at hq
      rw [List.getElem?_set_ne (Ne.symm z)]
      exact r.off j q hq
  · by_cases z : j = i
    · simp only [z, if_pos]; simp
    · simp only [if_neg z]; exact r.nd j
  · by_cases z : j = i
    · simp only [z, if_pos] at hq; exact absurd hq (by simp)
    · by_cases z' : l = i
      · simp only [z', if_pos] at hq'; exact absurd hq' (by simp)
      · simp only [if_neg z] at hq
        simp only [if_neg z'] at hq'
        exact r.dj j l hjl q hq hq'
  · have h' := hne j k' h
    obtain ⟨a, b⟩ := r.par j k' h
    exact ⟨by rw [List.getElem?_set_ne (Ne.symm h')]; exact a, (hσ j h').trans b⟩
end
def clr (i : Nat) : RS → RS
  | .nx s => .nx (s.set i none)
  | .bk s => .bk (s.set i none)
  | .ct s => .ct (s.set i none)
  | .rt d s => .rt d s
  | .ex _ _ => .no
  | .no => .no
/-- try: b, except C as slot i: su -/
def sTryAs (i : Nat) (sub : Str → Option Bool) (b : MS) (su : Xc → MS) : MS := fun s => match b s with
  | .ex x s' => (match sub x.c with
    | some true => clr i (su x (s'.set i (some .none)))
    | some false => .ex x s'
    | none => .no)
  | .nx s' => .nx s'
  | .rt d s' => .rt d s'
  | .bk s' => .bk s'
  | .ct s' => .ct s'
  | .no => .no
def noEx : RS → RS
  | .ex _ _ => .no
  | r => r
/-- try: b, except C: su -/
def sTryOnly (sub : Str → Option Bool) (b : MS) (su : MS) : MS := fun s => match b s with
  | .ex x s' => (match sub x.c with
    | some true => noEx (su s')
    | some false => .ex x s'
    | none => .no)
  | .nx s' => .nx s'
  | .rt d s' => .rt d s'
  | .bk s' => .bk s'
  | .ct s' => .ct s'
  | .no => .no
section
variable {K : Fg} {c : Ctx} {Ob O O1 : List Kd} {cv : Value} {sub : Str → Option Bool} {tb : WX → TS} {ts : Addr → Value → Option Addr → TS} {Wout : WX} {b : MS} {su : Xc → MS} {sm : MS}
theorem c_tryAs (i : Nat) (hi : i < O.length) (hp : O[i]? = some .sh) (hp1 : O1[i]? = some .sh) (hpb : Ob = [] ∨ Ob[i]? = some .sh) (hsub : ∀ n v, sub n = some v → ∀ cls, c.mg n = some cls → PySem.W.exmOne K cls cv = some v) (hWo : (∀ n, sub n ≠ some false) ∨ (c.W = Wout ∧ ∀ o, c.Ox = some o → O = o))
    (hb : ∀ c' : Ctx, c'.ps = c.ps → c'.rk = c.rk → c'.mg = c.mg → c'.Ox = some O → DC K c' Ob O (tb c'.W) b O1)
    (hs : ∀ (c' : Ctx) (a : Addr) (cls : Value) (d : Option Addr) (x : Xc), c'.ps = c.ps → c'.rk = c.rk → c'.mg = c.mg → sub x.c = some true → ExOk K c'.mg c'.F0 x cls d → DC K c' (Ob.set i (.xr a)) (O.set i (.xr a)) (ts a cls d) (su x) (O1.set i (.xr a))) :
    DC K c Ob O (fun D σ H => tb (wAs K cv i ts Wout D) D σ H) (sTryAs i sub b su) O1 := ⟨fun {F H σ fps ds} r E p => by
  unfold sTryAs at p
  refine (hb (c.wish (wAs K cv i ts Wout E) (some O)) rfl rfl rfl rfl).run (r.wish _ _) E ?_
  cases e : b ds with
  | no => rw [e] at p; exact p
  | nx s' => rw [e] at p; exact fun F' H' σ' fps' s1 r1 => p F' H' σ' fps' s1 r1.unwish
  | bk s' => rw [e] at p; exact fun F' H' σ' fps' s1 r1 => p F' H' σ' fps' s1 r1.unwish
  | ct s' => rw [e] at p; exact fun F' H' σ' fps' s1 r1 => p F' H' σ' fps' s1 r1.unwish
  | rt d s' => rw [e] at p; exact fun F' H' σ' fps' O'' v fpv s1 r1 => p F' H' σ' fps' O'' v fpv s1 r1.unwish
  | ex x s' =>
    rw [e] at p
    dsimp only at p
    refine fun F' H' σ' fps' O'' cls dd hO s1 r1 xo => ?_
    have hO'' : O'' = O := hO O rfl
    subst hO''
    have r1 := r1.unwish
    show wAs K cv i ts Wout E cls dd σ' H'
    have xo' : ExOk K c.mg F' x cls dd := xo
    cases z : sub x.c with
    | none => rw [z] at p; exact p.elim
    | some v =>
      refine ⟨v, hsub _ _ z _ xo'.1, fun hv a ha => ?_, fun hv => ?_⟩
      · subst hv
        rw [z] at p
        dsimp only at p
        have hpm : isPm O''[i]? = false := by rw [hp]; rfl
        have r2 := (r1.put (i := i) (k := .xr a) (v := .ref a) (d := .none) (fpv := []) hi hpm ⟨rfl, rfl⟩ (fun q hq => absurd hq (by simp)) (by simp)).ground
        refine (hs (c.base F') a cls dd x rfl rfl rfl z xo').run r2 _ ?_
        have fin : ∀ {O2 : List Kd} {F3 H3 : Hp} {σ3 : St} {fps3 : Nat → List Addr} {s3 : DS}, i < O2.length → O2[i]? = some .sh → Rel K (c.base F') (O2.set i (.xr a)) F3 H3 σ3 fps3 s3 → Rel K c O2 F3 H3 (σ3.set i none) (fun j => if j = i then [] else fps3 j) (s3.set i none) := fun {O2 F3 H3 σ3 fps3 s3} hl h2 r3 => by
          have r4 := (r1.unground r3).gone (σ' := σ3.set i none) i (fun j hj => List.getElem?_set_ne (Ne.symm hj)) (by simp) (by rw [List.getElem?_set_self hl]; rfl)
          rw [List.set_set] at r4
          have eO : O2.set i .sh = O2 := by
            refine List.ext_getElem? fun j => ?_
            by_cases hj : i = j
            · subst hj; rw [List.getElem?_set_self hl, h2]
            · rw [List.getElem?_set_ne hj]
          rw [eO] at r4
          exact r4
        have lt_of : ∀ {l : List Kd}, l[i]? = some .sh → i < l.length := fun h => (List.getElem?_eq_some_iff.mp h).1
        have finb : ∀ {F3 H3 : Hp} {σ3 : St} {fps3 : Nat → List Addr} {s3 : DS}, Rel K (c.base F') (Ob.set i (.xr a)) F3 H3 σ3 fps3 s3 → Rel K c Ob F3 H3 (σ3.set i none) (fun j => if j = i then [] else fps3 j) (s3.set i none) := fun {F3 H3 σ3 fps3 s3} r3 => by
          rcases hpb with h | h
          · subst h
            have r4 := (r1.unground r3).gone (σ' := σ3.set i none) i (fun j hj => List.getElem?_set_ne (Ne.symm hj)) (by simp) rfl
            exact r4
          · exact fin (lt_of h) h r3
        cases z2 : su x (s'.set i (some .none)) with
        | no => rw [z2] at p; exact p
        | ex y s3 => rw [z2] at p; exact p.elim
        | nx s3 => rw [z2] at p; exact fun F3 H3 σ3 fps3 s31 r3 => p F3 H3 _ _ (s1.trans s31) (fin (lt_of hp1) hp1 r3)
        | bk s3 => rw [z2] at p; exact fun F3 H3 σ3 fps3 s31 r3 => p F3 H3 _ _ (s1.trans s31) (finb r3)
        | ct s3 => rw [z2] at p; exact fun F3 H3 σ3 fps3 s31 r3 => p F3 H3 _ _ (s1.trans s31) (finb r3)
        | rt d s3 => rw [z2] at p; exact fun F3 H3 σ3 fps3 O3 w fpv s31 r3 => p F3 H3 σ3 fps3 O3 w fpv (s1.trans s31) (r1.unground r3)
      · subst hv
        rw [z] at p
        rcases hWo with h | ⟨hWo, hox⟩
        · exact absurd z (h _)
        have := p F' H' σ' fps' O'' cls dd hox s1 r1 xo'
        rw [hWo] at this
        exact this⟩
theorem c_tryOnly (hsub : ∀ n v, sub n = some v → ∀ cls, c.mg n = some cls → PySem.W.exmOne K cls cv = some v) (hWo : (∀ n, sub n ≠ some false) ∨ (c.W = Wout ∧ ∀ o, c.Ox = some o → O = o))
    (hb : ∀ c' : Ctx, c'.ps = c.ps → c'.rk = c.rk → c'.mg = c.mg → c'.Ox = some O → DC K c' Ob O (tb c'.W) b O1)
    (hs : ∀ (c' : Ctx) (a : Addr) (cls : Value) (d : Option Addr), c'.ps = c.ps → c'.rk = c.rk → c'.mg = c.mg → DC K c' Ob O (ts a cls d) sm O1) :
    DC K c Ob O (fun D σ H => tb (wOnly K cv ts Wout D) D σ H) (sTryOnly sub b sm) O1 := ⟨fun {F H σ fps ds} r E p => by
  unfold sTryOnly at p
  refine (hb (c.wish (wOnly K cv ts Wout E) (some O)) rfl rfl rfl rfl).run (r.wish _ _) E ?_
  cases e : b ds with
  | no => rw [e] at p; exact p
  | nx s' => rw [e] at p; exact fun F' H' σ' fps' s1 r1 => p F' H' σ' fps' s1 r1.unwish
  | bk s' => rw [e] at p; exact fun F' H' σ' fps' s1 r1 => p F' H' σ' fps' s1 r1.unwish
  | ct s' => rw [e] at p; exact fun F' H' σ' fps' s1 r1 => p F' H' σ' fps' s1 r1.unwish
  | rt d s' => rw [e] at p; exact fun F' H' σ' fps' O'' v fpv s1 r1 => p F' H' σ' fps' O'' v fpv s1 r1.unwish
  | ex x s' =>
    rw [e] at p
    dsimp only at p
    refine fun F' H' σ' fps' O'' cls dd hO s1 r1 xo => ?_
    have hO'' : O'' = O := hO O rfl
    subst hO''
    have r1 := r1.unwish
    show wOnly K cv ts Wout E cls dd σ' H'
    have xo' : ExOk K c.mg F' x cls dd := xo
    cases z : sub x.c with
    | none => rw [z] at p; exact p.elim
    | some v =>
      refine ⟨v, hsub _ _ z _ xo'.1, fun hv a ha => ?_, fun hv => ?_⟩
      · subst hv
        rw [z] at p
        dsimp only at p
        refine (hs c a cls dd rfl rfl rfl).run r1 _ ?_
        cases z2 : sm s' with
        | ex y s3 => rw [z2] at p; exact p.elim
        | _ => rw [z2] at p; exact p.mono s1
      · subst hv
        rw [z] at p
        rcases hWo with h | ⟨hWo, hox⟩
        · exact absurd z (h _)
        have := p F' H' σ' fps' O'' cls dd hox s1 r1 xo'
        rw [hWo] at this
        exact this⟩
end
end Z
set_option Elab.async false
set_option linter.all false
set_option maxRecDepth 100000
set_option maxHeartbeats 2000000
namespace ZH
open PySem PySem.Spec PyProof.Rows HotX
section
variable {prog : Program} {w : World} {A : Around} {E : Value → Shared → Prop} {s : Shared} {x1 : Addr}
/-- StopIteration while an exception is handled -/
theorem stop_hot {α : Type} {Q : α → Shared → Prop} (hot : HotAt A x1 s.heap) (hE : ∀ h' e, (∀ b o, s.heap.get? b = some o → h'.get? b = some o) → (∃ o, h'.get? e = some o ∧ o.cls = .type "StopIteration") → E (.ref e) { s with heap := h' }) :
    wpAny (model prog w) A ((do let v ← newExc (.type "StopIteration") []; raiseNew v) : Sem α) Q E s := by
  obtain ⟨hh, o1, vs1, h1, d1, c1⟩ := hot
  refine wpAny_bind ?_; simp only [newExc, newTuple]; refine wpAny_bind (wpAny_newObj_type ?_ (by size_fits)); refine wpAny_bind (m := firstArgMember _ _) (wpAny_of_eq (a := Value.none) (by first | rfl | (simp only [firstArgMember]; rfl)) ?_); refine wpAny_newObj_type ?_ (by size_fits)
  have g1 := Heap.get?_push_of_some (h := s.heap) { cls := .type "tuple", data := .seq (#[] : Array Value) } h1
  refine raiseNew_hot ⟨hh, o1, vs1, Heap.get?_push_of_some _ (Heap.get?_push_of_some _ h1), d1, c1⟩ (Nat.ne_of_lt (Heap.lt_size (Heap.get?_push_of_some _ h1))) (Heap.get?_push_size _ rfl) rfl (by first | (simp; done) | (simp; omega) | (simp only [Array.size_append]; simp; omega)) ?_
  refine hE _ _ (fun b o e => ?_) ⟨_, Heap.get?_update_self _ (Heap.get?_push_size _ rfl) rfl, rfl⟩
  rw [Heap.get?_update_other _ _ (Nat.ne_of_gt (Heap.lt_size (Heap.get?_push_of_some _ e)))]; exact Heap.get?_push_of_some _ (Heap.get?_push_of_some _ e)
end
section
variable {prog : Program} {w : World} {A : Around} {E : Value → Shared → Prop} {s : Shared} {x1 : Addr}
theorem HotAt.ext {h h' : Heap} {it : Addr} (hot : HotAt A x1 h) (hne : x1 ≠ it) (e : Heap.ExtBut it h h') : HotAt A x1 h' := by
  obtain ⟨hh, o1, vs1, h1, d1, c1⟩ := hot
  exact ⟨hh, o1, vs1, e _ _ hne h1, d1, c1⟩
theorem lst_end_hot {it l : Addr} {i : Nat} {items : Array Value} {Q : Value → Shared → Prop} (hot : HotAt A x1 s.heap) (hne : x1 ≠ it) (hit : s.heap.IsListIter it l i) (hl : s.heap.IsList l items) (hx : items[i]? = none)
    (hE : ∀ h' e, Heap.ExtBut it s.heap h' → (∃ o, h'.get? e = some o ∧ o.cls = .type "StopIteration") → E (.ref e) { s with heap := h' }) : wpAny (model prog w) A (Builtin.SmallTypes.nextOf (.ref it)) Q E s := by
  obtain ⟨o, ho, hc, hd⟩ := id hit
  obtain ⟨ol, hol, _, nl, hdl⟩ := hl
  unfold Builtin.SmallTypes.nextOf; refine wpAny_bind (wpAny_callSpecial?_slot (name := Str.ofString "__next__") hit.typeIs slot_listiter_next (wpAny_call_entry slot_listiter_next hit.typeIs entry_listiter_next ?_ (args_listiter_next _)))
  show wpAny _ _ (field (.ref it) 0 >>= _) _ _ _; refine wpAny_bind (wpAny_field ho hd (x := .ref l) rfl ?_); show wpAny _ _ (if (Value.ref l == Value.none) = true then _ else _) _ _ _; rw [if_neg (show ¬ ((Value.ref l == Value.none) = true) from Bool.false_ne_true)]; show wpAny _ _ (field (.ref it) 1 >>= _) _ _ _; refine wpAny_bind (wpAny_field ho hd (x := .int i 0) rfl ?_); show wpAny _ _ (seqItems? (.ref l) >>= _) _ _ _; refine wpAny_bind (wpAny_seqItems hol hdl ?_); simp only [Int.toNat_natCast, hx]
  refine wpAny_bind (wpAny_rule (wpAny_bind (wpAny_setField ho hd (by simp) ?_)))
  have sb := (Heap.SameBut.update s.heap it (Obj.mapFields (·.setIfInBounds 0 Value.none))).extBut
  refine stop_hot (x1 := x1) (HotAt.ext (A := A.in1) hot hne sb) fun h' e k he => hE h' e (fun b o hb q => k b o (sb b o hb q)) he
theorem tup_end_hot {it t : Addr} {i : Nat} {items : Array Value} {Q : Option Value → Shared → Prop} (hot : HotAt A x1 s.heap) (hne : x1 ≠ it) (hit : IsTupIter s.heap it t i) (ht : IsTup s.heap t items) (hx : items[i]? = none)
    (hQ : ∀ h', Heap.ExtBut it s.heap h' → Q none { s with heap := h' }) : wpAny (model prog w) A (pyNext (.ref it)) Q E s := by
  obtain ⟨o, ho, hc, hd⟩ := id hit
  obtain ⟨ol, hol, _, nl, hdl⟩ := ht
  unfold pyNext; refine wpAny_bind (wpAny_attempt (wpAny_callSpecial?_slot (name := Str.ofString "__next__") hit.typeIs slot_tupleiter_next (wpAny_call_entry slot_tupleiter_next hit.typeIs entry_tupleiter_next ?_ (args_tupleiter_next _))))
  show wpAny _ _ (field (.ref it) 0 >>= _) _ _ _; refine wpAny_bind (wpAny_field ho hd (x := .ref t) rfl ?_); show wpAny _ _ (if (Value.ref t == Value.none) = true then _ else _) _ _ _; rw [if_neg (show ¬ ((Value.ref t == Value.none) = true) from Bool.false_ne_true)]; show wpAny _ _ (field (.ref it) 1 >>= _) _ _ _; refine wpAny_bind (wpAny_field ho hd (x := .int i 0) rfl ?_); show wpAny _ _ (seqItems? (.ref t) >>= _) _ _ _; refine wpAny_bind (wpAny_seqItems hol hdl ?_); simp only [Int.toNat_natCast, hx]
  refine wpAny_bind (wpAny_rule (wpAny_bind (wpAny_setField ho hd (by simp) ?_)))
  have sb := (Heap.SameBut.update s.heap it (Obj.mapFields (·.setIfInBounds 0 Value.none))).extBut
  refine stop_hot (x1 := x1) (HotAt.ext (A := A.in1) hot hne sb) fun h' e k he => ?_
  obtain ⟨oe, hoe, hce⟩ := he
  exact wpAny_bind (wpAny_isInstance (T := "StopIteration") (b := true) ⟨oe, hoe, hce⟩ isSubtype_stop (wpAny_pure (hQ _ fun b o hb q => k b o (sb b o hb q))))
theorem unpack_hot {t : Addr} {items : Array Value} {targets : List (Bool × (Value → Sem Unit))} {Q : Unit → Shared → Prop} (hot : HotAt A x1 s.heap) (ht : IsTup s.heap t items) (hn : targets.length = items.size) (hstar : targets.findIdx? (·.1) = none)
    (h : ∀ h', Heap.ExtBut s.heap.objs.size s.heap h' → wpAny (model prog w) A (assignInOrder (targets.map (·.2)) items.toList) Q E { s with heap := h' }) : wpAny (model prog w) A (unpack (.ref t) targets) Q E s := by
  unfold unpack; rw [hn, hstar]; refine wpAny_bind (wpAny_holding ?_)
  have hlt : t ≠ s.heap.objs.size := by obtain ⟨o, ho, _⟩ := ht; exact Nat.ne_of_lt (Heap.lt_size ho)
  have hxl : x1 ≠ s.heap.objs.size := by obtain ⟨_, o, _, ho, _⟩ := hot; exact Nat.ne_of_lt (Heap.lt_size ho)
  unfold unpackItems; refine wpAny_bind ?_
  unfold notIterableAtAll; refine wpAny_bind (wpAny_specialOf ht.typeIs slot_tuple_iter.lookup ?_); refine wpAny_pure ?_; simp only [Bool.false_eq_true, if_false]
  refine wpAny_bind (wpAny_holding (iter_tuple ht ?_)); refine wpAny_bind (wpAny_holding (draw_tuple hlt items.size 0 _ _ ⟨_, Heap.get?_push_size _ rfl, rfl, rfl⟩ (ht.push _) (by omega) fun h₁ hit₁ hs₁ => ?_))
  rw [show List.take items.size (List.drop 0 items.toList) = items.toList by rw [List.drop_zero]; exact List.take_of_length_le (by simp)]; rw [if_neg (by simp)]
  have k1 : ∀ b o, s.heap.get? b = some o → h₁.get? b = some o := fun b o q => hs₁.extBut b o (Nat.ne_of_lt (Heap.lt_size q)) (Heap.get?_push_of_some _ q)
  have hot1 : HotAt A x1 h₁ := by obtain ⟨hh, o1, vs1, h1, d1, c1⟩ := hot; exact ⟨hh, o1, vs1, k1 _ _ h1, d1, c1⟩
  refine wpAny_bind (wpAny_holding (tup_end_hot (s := { s with heap := h₁ }) hot1 hxl hit₁ ((ht.push _).extBut hs₁.extBut hlt) (by simp) fun h₂ he₂ => ?_)); simp only [Option.isSome_none, Bool.false_eq_true, if_false]
  exact wpAny_pure (h h₂ fun b o hb e => he₂ b o hb (hs₁.extBut b o hb (Heap.get?_push_of_some _ e)))
theorem zip_end_hot {z TI TO i1 i2 l1 l2 : Addr} {k1 : Nat} {xs : Array Value} {a b : Value} {Q : Option Value → Shared → Prop} (hot : HotAt A x1 s.heap) (hxz : x1 ≠ z) (hx1 : x1 ≠ i1) (D : ZipApart z TI TO i1 i2 l1 l2) (hz : IsZip s.heap z TI TO .none) (hTI : IsPair s.heap TI (.ref i1) (.ref i2)) (hTO : IsPair s.heap TO a b)
    (h1 : s.heap.IsListIter i1 l1 k1) (hl1 : s.heap.IsList l1 xs) (hend : xs[k1]? = none) (hQ : ∀ h', (∀ c o, c ≠ z → c ≠ TO → c ≠ i1 → c ≠ i2 → s.heap.get? c = some o → h'.get? c = some o) → Q none { s with heap := h' }) : wpAny (model prog w) A (pyNext (.ref z)) Q E s := by
  have hT : s.TypeIs (.ref z) "zip" := ⟨_, hz, rfl⟩
  unfold pyNext; refine wpAny_bind (wpAny_attempt (wpAny_callSpecial?_slot (name := Str.ofString "__next__") hT F.slot_zip_next (wpAny_call_entry F.slot_zip_next hT F.entry_zip_next ?_ (F.args_zip_next_1 _))))
  show wpAny _ _ (field (.ref z) 2 >>= _) _ _ _; refine wpAny_bind (wpAny_field hz rfl (x := .bool false) rfl ?_); show wpAny _ _ (field (.ref z) 3 >>= _) _ _ _; refine wpAny_bind (wpAny_field hz rfl (x := .ref TI) rfl ?_); refine wpAny_bind (wpAny_seqItems hTI rfl ?_); show wpAny _ _ (Builtin.SmallTypes.ownedTupleIsFree (.ref z) >>= _) _ _ _
  refine wpAny_bind ?_; unfold Builtin.SmallTypes.ownedTupleIsFree; refine wpAny_bind (wpAny_field hz rfl (x := .none) rfl (wpAny_pure ?_)); simp only [if_true]; refine wpAny_bind (wpAny_rule ?_); refine wpAny_bind (wpAny_field hz rfl (x := .ref TO) rfl ?_)
  refine wpAny_bind (wpAny_setField_rec hz (by simp) fun h₁ hz₁ hs₁ => ?_); replace hz₁ : IsZip h₁ z TI TO .ellipsis := hz₁; refine wpAny_bind ?_; simp only [List.zipIdx_cons, List.zipIdx_nil, List.forIn_cons, List.forIn_nil]; refine wpAny_bind (wpAny_bind (wpAny_onRaise ?_)); show wpAny _ _ (Builtin.SmallTypes.nextOf (.ref i1) >>= _) _ _ _
  refine wpAny_bind (lst_end_hot (s := { s with heap := h₁ }) (x1 := x1) (HotAt.ext (A := A.in1) hot hxz hs₁.extBut) hx1 (h1.extBut hs₁.extBut D.i1z) (hl1.extBut hs₁.extBut D.l1z) hend fun h₂ e hs₂ he => ?_)
  obtain ⟨oe, hoe, hce⟩ := he
  have hz₂ : IsZip h₂ z TI TO .ellipsis := hs₂ _ _ D.i1z.symm hz₁
  have hez : e ≠ z := fun x => by subst x; rw [hz₂] at hoe; cases hoe; simp at hce
  refine wpAny_setField_rec hz₂ (by simp) fun h₃ _ hs₃ => ?_
  exact wpAny_bind (wpAny_isInstance (T := "StopIteration") (b := true) ⟨oe, hs₃.extBut _ _ hez hoe, hce⟩ isSubtype_stop (wpAny_pure (hQ _ fun c o c1 _ c3 _ q => hs₃.extBut _ _ c1 (hs₂ _ _ c3 (hs₁.extBut _ _ c1 q)))))
end
open L2 L2H
section
variable {X : Cx} {p : Addr × Obj}
/-- the handled exception stands, in a state of a context that has it among its pins -/
theorem hotAt {pins : List (Addr × Obj)} {σ : L2.St} {H : Hp} {s : Shared} (h : Hot1 X.A p) (hp : p ∈ X.pn ++ pins) (I : Inv X pins σ H s) : HotAt X.A p.1 s.heap := by
  obtain ⟨hh, vs, e, c⟩ := h
  exact ⟨hh, p.2, vs, (I.pin p hp).1, e, c⟩
/-- (a, b, ..) = a tuple, while an exception is handled -/
theorem tupTo {pins : List (Addr × Obj)} {s : Shared} {σ : L2.St} {H : Hp} {v : V} {u : Value} {Q : L2.St → Hp → Prop} {es : List Expr} {kk n : Nat} {tpos : Pos} {t : TGs} (hot : Hot1 X.A p) (hp : p ∈ X.pn ++ pins) (hgs : PGs X es t) (hn : (assignEach es X.env).length = n) (hst : (assignEach es X.env).findIdx? (·.1) = none)
    (I : Inv X pins σ H s) (r : RelV v u) (hw : gTup X.K n t v σ H Q) : wpAny (model X.prog X.w) X.A (assign (.Tuple es kk tpos) X.env u) (fun _ s' => ∃ σ' H', Inv X pins σ' H' s' ∧ Q σ' H') X.xe s := by
  obtain ⟨a, xs, rfl, hq, hl, hw⟩ := hw
  cases r
  obtain ⟨its, rv, ht, hz⟩ := I.tuple hq
  rw [assign_Tuple]
  refine wpAny_bind (wpAny_standAt (unpack_hot (hotAt hot hp I) ht (by simp [hn, ← hl, rv.length]) hst fun h' hx => ?_))
  have I1 : Inv X pins σ H { s with heap := h' } := I.kept (t' := s.toks) fun b o e => hx b o (Nat.ne_of_lt (Heap.lt_size e)) e
  exact hgs.run pins _ σ H xs _ Q I1 (by simpa using rv) hw
def ztn (a b z TI TO i1 i2 : Addr) (i : Nat) (h : Heap) : Prop := IsZip h z TI TO .none ∧ IsPair h TI (.ref i1) (.ref i2) ∧ (∃ x y, IsPair h TO x y) ∧ h.IsListIter i1 a i ∧ h.IsListIter i2 b i
theorem ztn_obj {a b z TI TO i1 i2 : Addr} {i : Nat} {h : Heap} (st : ztn a b z TI TO i1 i2 i h) : ∀ c ∈ [z, TI, TO, i1, i2], ∃ o, h.get? c = some o ∧ ∀ v, o.data ≠ .cell v := fun c hc => by
  obtain ⟨hz, hTI, ⟨x, y, hTO⟩, ⟨o1, e1, _, d1⟩, ⟨o2, e2, _, d2⟩⟩ := st
  simp only [List.mem_cons, List.not_mem_nil, or_false] at hc
  rcases hc with rfl | rfl | rfl | rfl | rfl
  · exact ⟨_, hz, fun v q => nomatch q⟩
  · exact ⟨_, hTI, fun v q => nomatch q⟩
  · exact ⟨_, hTO, fun v q => nomatch q⟩
  · exact ⟨o1, e1, fun v q => by rw [d1] at q; cases q⟩
  · exact ⟨o2, e2, fun v q => by rw [d2] at q; cases q⟩
theorem ztn_keep {a b z TI TO i1 i2 : Addr} {i : Nat} {h h' : Heap} (st : ztn a b z TI TO i1 i2 i h) (k : ∀ c ∈ [z, TI, TO, i1, i2], ∀ o, h.get? c = some o → h'.get? c = some o) : ztn a b z TI TO i1 i2 i h' := by
  obtain ⟨hz, hTI, ⟨x, y, hTO⟩, h1, h2⟩ := st
  exact ⟨k z (by simp) _ hz, k TI (by simp) _ hTI, ⟨x, y, k TO (by simp) _ hTO⟩, h1.at fun o q => k i1 (by simp) o q, h2.at fun o q => k i2 (by simp) o q⟩
theorem zitem {elts : List Expr} {kk : Nat} {tpos : Pos} {a b z TI TO i1 i2 : Addr} {i : Nat} {pins : List (Addr × Obj)} {s : Shared} {σ : L2.St} {H : Hp} {E : Value → Shared → Prop} (D : ZipApart z TI TO i1 i2 a b) (I : Inv X pins σ H s) (hf : ∀ c ∈ [z, TI, TO, i1, i2], FpOk X pins H c) (st : ztn a b z TI TO i1 i2 i s.heap)
    (hg : (Itz X.K a b).go i H) : wpAny (model X.prog X.w) X.A (pyNext (.ref z)) (fun r s1 => ∃ u, r = some u ∧ wpAny (model X.prog X.w) X.A (letOwnedTupleGo (.Tuple elts kk tpos) (.ref z) u) (fun _ s2 => ∃ x H', Inv X pins σ H' s2 ∧ RelV x u ∧ (Itz X.K a b).yld i H x H' ∧ ztn a b z TI TO i1 i2 (i + 1) s2.heap ∧ ∀ c ∈ [z, TI, TO, i1, i2], H' c = none) E s1) E s := by
  obtain ⟨hz, hTI, ⟨x0, y0, hTO⟩, h1, h2⟩ := st
  obtain ⟨xs, ys, x, y, hqx, hqy, hx, hy⟩ := hg
  obtain ⟨its, rv, p1, _⟩ := I.list hqx
  obtain ⟨its2, rv2, p2, _⟩ := I.list hqy
  obtain ⟨u, hu, ru⟩ := rv.get hx
  obtain ⟨u2, hu2, ru2⟩ := rv2.get hy
  have hzl : z < s.heap.objs.size := Heap.lt_size hz
  refine wpAny_pyNext_zip_item D hz hTI hTO h1 h2 p1.isList p2.isList (x := u) (y := u2) (by simpa using hu) (by simpa using hu2) fun h' z' TO' h1' h2' hT hsz hk => ⟨_, rfl, wpAny_letOwnedTupleGo_zip (s := { s with heap := h' }) z' fun h'' z'' sb => ?_⟩
  have kk2 : ∀ c o, c ∉ [z, TI, TO, i1, i2] → s.heap.get? c = some o → h''.get? c = some o := fun c o hb q => by
    simp only [List.mem_cons, List.not_mem_nil, or_false, not_or] at hb
    exact (sb.2 c hb.1).trans (hk c o hb.1 hb.2.2.1 hb.2.2.2.1 hb.2.2.2.2 q)
  have hT2 : h''.get? s.heap.objs.size = some { cls := .type "tuple", data := .seq #[u, u2] } := (sb.2 _ (Nat.ne_of_gt hzl)).trans hT
  have I1 : Inv X pins σ (upd H s.heap.objs.size (.tup [x, y])) { s with heap := h'' } := I.turnedNew (t' := s.toks) (ch := [z, TI, TO, i1, i2]) kk2 hf (Nat.le_refl _) ⟨by show 2 ≤ sizeLine; decide, [u, u2], .cons ru (.cons ru2 .nil), ⟨_, hT2, rfl, _, rfl⟩⟩
  refine ⟨.ref s.heap.objs.size, _, I1, rfl, ⟨_, x, y, rfl, I.hok.fresh (Nat.le_refl _), rfl, fun l hl => by rw [I.list_inj hl hqx]; exact hx, fun l hl => by rw [I.list_inj hl hqy]; exact hy⟩, ⟨z'', (sb.2 _ D.TIz).trans (hk _ _ D.TIz D.TITO D.TIi1 D.TIi2 hTI), ⟨u, u2, (sb.2 _ D.TOz).trans TO'⟩, h1'.at fun o q => (sb.2 _ D.i1z).trans q, h2'.at fun o q => (sb.2 _ D.i2z).trans q⟩, fun c hcm => ?_⟩
  obtain ⟨o, eo, _⟩ := ztn_obj (a := a) (b := b) (i := i) ⟨hz, hTI, ⟨x0, y0, hTO⟩, h1, h2⟩ c hcm
  rw [upd_ne (Nat.ne_of_lt (Heap.lt_size eo))]
  exact (hf c hcm).1
theorem zdone {a b z TI TO i1 i2 : Addr} {i : Nat} {pins : List (Addr × Obj)} {s : Shared} {σ : L2.St} {H : Hp} {E : Value → Shared → Prop} {xs : List V} (hot : Hot1 X.A p) (hp : p ∈ X.pn ++ pins) (D : ZipApart z TI TO i1 i2 a b) (I : Inv X pins σ H s) (hf : ∀ c ∈ [z, TI, TO, i1, i2], FpOk X pins H c) (st : ztn a b z TI TO i1 i2 i s.heap)
    (hqx : SqL X.K H a xs) (hl : xs.length ≤ i) : wpAny (model X.prog X.w) X.A (pyNext (.ref z)) (fun r s1 => r = none ∧ Inv X pins σ H s1) E s := by
  obtain ⟨hz, hTI, ⟨x0, y0, hTO⟩, h1, h2⟩ := st
  obtain ⟨its, rv, p1, _⟩ := I.list hqx
  have l1 := rv.length
  have ne : ∀ c ∈ [z, TI, TO, i1, i2], p.1 ≠ c := fun c hc => (hf c hc).2.2.2.2.2 p hp
  exact zip_end_hot (hotAt hot hp I) (ne z (by simp)) (ne i1 (by simp)) D hz hTI hTO h1 p1.isList (by simp; omega) fun h' hk => ⟨rfl, I.turnedL (t' := s.toks) (ch := [z, TI, TO, i1, i2]) (fun c o hb q => by
    simp only [List.mem_cons, List.not_mem_nil, or_false, not_or] at hb
    exact hk c o hb.1 hb.2.2.1 hb.2.2.2.1 hb.2.2.2.2 q) hf⟩
end
section
variable {X : Cx} {p : Addr × Obj}
/-- zip that ends with its first list -/
def Itz1 (K : PySem.W.Frag) (a b : Addr) : It := ⟨(Itz K a b).go, (Itz K a b).yld, fun i H => ∃ xs : List V, SqL K H a xs ∧ xs.length ≤ i⟩
def iZip1 (K : PySem.W.Frag) (ta : TA) : TI := fun σ H R => ta σ H fun vs H1 => ∃ a b xs ys, vs = [.ref a, .ref b] ∧ SqL K H1 a xs ∧ SqL K H1 b ys ∧ R (Itz1 K a b) H1
/-- [elt for a, b in zip(x, y) if ..] while an exception is handled -/
theorem pe_lcz {elt t1 t2 e1 e2 : Expr} {ifs : List Expr} {scope : Scope} {own : List (Str × Nat)} {pos tpos zp cpos : Pos} {kk : Nat} {ta : TA} {gs : TGs} {tt : TT} {te : TE} (hot : Hot1 X.A p) (hpn : p ∈ X.pn) (hN : X.N.Nodup) (hgz : Gl X "zip") (hmz : X.mg "zip" = none) (ha : PA X [e1, e2] ta) (ok : BlkOk X.N X.env.scope scope own)
    (hg : ∀ (s : Shared) (H : Hp) (C : Addr) (cl : List (Str × Addr)) (fp : List Addr), PGs (X.blk s H scope (compEnvC scope cl C X.env) fp) [t1, t2] gs)
    (hst : ∀ env : Env, (assignEach [t1, t2] env).findIdx? (·.1) = none) (hln : ∀ env : Env, (assignEach [t1, t2] env).length = 2)
    (ht : ∀ (s : Shared) (H : Hp) (C : Addr) (cl : List (Str × Addr)) (fp : List Addr), PTs (X.blk s H scope (compEnvC scope cl C X.env) fp) ifs tt)
    (he : ∀ (s : Shared) (H : Hp) (C : Addr) (cl : List (Str × Addr)) (fp : List Addr), PE (X.blk s H scope (compEnvC scope cl C X.env) fp) elt te)
    (hs : ∀ x, foldedSetIterable (.Call (.Name "zip" zp) [e1, e2] [] cpos) X.env x = pure x := by intro _; rfl)
    (hs1 : starEach [e1, e2] X.env = (false, eval e1 X.env) :: starEach [e2] X.env := by rfl) (hs2 : (backTo cpos (starEach [e2] X.env)).any (·.1) = false := by rfl) :
    PE X (.ListComp elt [⟨.Tuple [t1, t2] kk tpos, .Call (.Name "zip" zp) [e1, e2] [] cpos, ifs, 0⟩] scope pos) (tLc (iZip1 X.K ta) (gTup X.K 2 gs) tt te (own.map (·.2))) := ⟨fun pins s σ H Q I h => by
  rw [eval_ListComp]
  have hfr : ∀ y ∈ scope.names, y.2 = .free → ∃ c, X.env.cells.lookup y.1 = some c := fun y hy e => (ok.free y hy e).elim (fun k => I.ok.has _ (.inl k)) fun k => I.ok.has _ (.inr k)
  refine wpAny_comprehension_free (use := none) rfl hs (closure_ok hfr) ok.kind (fun y hy e => by rw [ok.uniq y hy, e]) ?_
  refine Call_ (ld_blt I hgz hmz PyProof.Rows.boot_zip (PyProof.Rows.callWith_type1 (thn (ha.run cpos pins s σ H _ I h) fun us s1 ⟨vs, H1, I1, r1, q1⟩ => ?_) hs1 hs2))
  obtain ⟨a, b, xs, ys, ex, hqx, hqy, q⟩ := q1
  subst ex
  obtain ⟨u1, u2, rfl, ra, rb⟩ : ∃ u1 u2, us = [u1, u2] ∧ RelV (.ref a) u1 ∧ RelV (.ref b) u2 := by
    cases r1 with | cons r rr => cases rr with | cons r' rr => cases rr; exact ⟨_, _, rfl, r, r'⟩
  obtain rfl : u1 = Value.ref a := ra
  obtain rfl : u2 = Value.ref b := rb
  obtain ⟨its, rv, p1, _⟩ := I1.list hqx
  obtain ⟨its2, rv2, p2, _⟩ := I1.list hqy
  refine call_zip_2 p1.isList p2.isList fun h' hz hTI hTO h1 h2 hsz hk => wpAny_pyIter_zip hz ?_
  have dj : ZipApart (s1.heap.objs.size + 4) (s1.heap.objs.size + 2) (s1.heap.objs.size + 3) s1.heap.objs.size (s1.heap.objs.size + 1) a b := PySem.W.ktu_apart s1.heap.objs.size a b p1.lt p2.lt
  have J0 : Inv X pins σ H1 { s1 with heap := h' } := I1.kept (t' := s1.toks) hk
  have st0 : ztn a b (s1.heap.objs.size + 4) (s1.heap.objs.size + 2) (s1.heap.objs.size + 3) s1.heap.objs.size (s1.heap.objs.size + 1) 0 h' := ⟨hz, hTI, ⟨_, _, hTO⟩, h1, h2⟩
  have fok : ∀ c ∈ [s1.heap.objs.size + 4, s1.heap.objs.size + 2, s1.heap.objs.size + 3, s1.heap.objs.size, s1.heap.objs.size + 1], FpOk X pins H1 c := fun c hc => by
    have hle : s1.heap.objs.size ≤ c := by simp only [List.mem_cons, List.not_mem_nil, or_false] at hc; omega
    exact I1.fpOk hle (I1.hok.fresh hle)
  generalize s1.heap.objs.size + 4 = z at *
  generalize s1.heap.objs.size + 2 = TI at *
  generalize s1.heap.objs.size + 3 = TO at *
  generalize s1.heap.objs.size + 1 = i2 at *
  generalize s1.heap.objs.size = i1 at *
  generalize hs2e : ({ s1 with heap := h' } : Shared) = s2 at J0 ⊢
  have st0 : ztn a b z TI TO i1 i2 0 s2.heap := by rw [← hs2e]; exact st0
  clear hk hz hTI hTO h1 h2 hs2e
  refine wpAny_newObj_type (newEnv_comp ?_) (by show 0 ≤ sizeLine; decide)
  generalize hD : s2.heap.objs.size = D
  have hDn : H1 D = none := J0.hok.fresh (Nat.le_of_eq hD)
  obtain ⟨W, ⟨m0, w0⟩, turn⟩ := q D hDn
  generalize hs3 : ({ s2 with heap := s2.heap.push { cls := .type "list", data := .seq ([] : List Value).toArray } } : Shared) = s3
  have e3 : s3.heap = s2.heap.push { cls := .type "list", data := .seq ([] : List Value).toArray } := by rw [← hs3]
  have J1 : Inv X pins σ (upd H1 D (.lst [])) s3 := by
    rw [← hs3]
    refine J0.laid (t' := s2.toks) (fun c o e => Heap.get?_push_of_some _ e) (Nat.le_of_eq hD) ⟨Nat.zero_le _, [], 0, .nil, ?_⟩
    rw [← hD]; exact Heap.get?_push_size _ rfl
  have fok3 : ∀ c ∈ [z, TI, TO, i1, i2], FpOk X pins (upd H1 D (.lst [])) c ∧ c < s3.heap.objs.size := fun c hc => by
    obtain ⟨o, eo, _⟩ := ztn_obj st0 c hc
    have hlt := Heap.lt_size eo
    refine ⟨⟨?_, (fok c hc).2⟩, by rw [e3, Heap.size_push]; exact Nat.lt_succ_of_lt hlt⟩
    rw [upd_ne (by rw [← hD]; exact Nat.ne_of_lt hlt)]; exact (fok c hc).1
  have st3 : ztn a b z TI TO i1 i2 0 s3.heap := ztn_keep st0 fun c _ o e => by rw [e3]; exact Heap.get?_push_of_some _ e
  have J2 := block_start J1 ok hN fok3
  show codeAny _ _ (.compStart (.ListComp elt [⟨.Tuple [t1, t2] kk tpos, .Call (.Name "zip" zp) [e1, e2] [] cpos, ifs, 0⟩] scope pos) 0 (.ref z) (.ref D) (compEnvC scope (cellsFrom (s3.heap.objs.size + 1) scope.names (cloFrom X.env.cells scope.names [])) s3.heap.objs.size X.env)) (compPost (model X.prog X.w) X.A X.xe none (EP X pins σ Q) (.ref D) s3.heap.objs.size) { s3 with heap := pushCells (s3.heap.push { cls := .type "dict", data := .dict #[] }) scope.names }
  have jg := hg s3 (upd H1 D (.lst [])) s3.heap.objs.size (cellsFrom (s3.heap.objs.size + 1) scope.names (cloFrom X.env.cells scope.names [])) [z, TI, TO, i1, i2]
  have jt := ht s3 (upd H1 D (.lst [])) s3.heap.objs.size (cellsFrom (s3.heap.objs.size + 1) scope.names (cloFrom X.env.cells scope.names [])) [z, TI, TO, i1, i2]
  have je := he s3 (upd H1 D (.lst [])) s3.heap.objs.size (cellsFrom (s3.heap.objs.size + 1) scope.names (cloFrom X.env.cells scope.names [])) [z, TI, TO, i1, i2]
  have hno : ∀ c ∈ [z, TI, TO, i1, i2], (upd H1 D (.lst [])) c = none := fun c hc => (fok3 c hc).1.1
  generalize hce : compEnvC scope (cellsFrom (s3.heap.objs.size + 1) scope.names (cloFrom X.env.cells scope.names [])) s3.heap.objs.size X.env = ce at J2 jg jt je ⊢
  have cL : ce.locals = s3.heap.objs.size := by subst hce; rfl
  generalize hH3 : upd H1 D (.lst []) = H3 at J1 J2 jg jt je w0 hno fok3
  generalize hs4 : ({ s3 with heap := pushCells (s3.heap.push { cls := .type "dict", data := .dict #[] }) scope.names } : Shared) = s4 at J2 ⊢
  have st4 : ztn a b z TI TO i1 i2 0 s4.heap := ztn_keep st3 fun c _ o e => by rw [← hs4]; exact pushCells_keeps _ _ _ _ (Heap.get?_push_of_some _ e)
  have P3 := J1.pin p (List.mem_append_left _ hpn)
  have J3 : Inv (X.blk s3 H3 scope ce [z, TI, TO, i1, i2]) [p] (wipe σ (own.map (·.2))) H3 s4 := J2.pins_of fun p' hp' => by
    have : p' = p := by simpa using hp'
    subst this
    refine ⟨by rw [← hs4]; exact pushCells_keeps _ _ _ _ (Heap.get?_push_of_some _ P3.1), P3.2.1, ?_, ?_, P3.2.2.2.2⟩
    · show p'.1 ≠ ce.locals
      rw [cL]; exact Nat.ne_of_lt (Heap.lt_size P3.1)
    · exact fun hm => (List.mem_cons.mp (J1.stkSub p'.1 hm)).elim P3.2.2.1 P3.2.2.2.1
  have pin1 : p ∈ (X.blk s3 H3 scope ce [z, TI, TO, i1, i2]).pn ++ [p] := by simp
  have fokB : ∀ {σ' : L2.St} {H' : Hp} {s' : Shared}, Inv (X.blk s3 H3 scope ce [z, TI, TO, i1, i2]) [p] σ' H' s' → (∀ c ∈ [z, TI, TO, i1, i2], H' c = none) → ∀ c ∈ [z, TI, TO, i1, i2], FpOk (X.blk s3 H3 scope ce [z, TI, TO, i1, i2]) [p] H' c := fun {σ' H' s'} J hn c hc =>
    ⟨hn c hc, (J.ok.exf c hc).1, J.ok.exfs c hc, .inl hc, fun x c' e => (J.ok.exf c hc).2 x c' e, fun p' hp' => by
      have : p' = p := by simpa using (show p' ∈ ([] : List (Addr × Obj)) ++ [p] from hp')
      subst this
      exact (fok3 c hc).1.2.2.2.2.2 p' (List.mem_append_left _ hpn)⟩
  have loop : codeAny (model X.prog X.w) X.A (.compLoop (.ListComp elt [⟨.Tuple [t1, t2] kk tpos, .Call (.Name "zip" zp) [e1, e2] [] cpos, ifs, 0⟩] scope pos) 0 (.ref z) (.ref D) ce) (compPost (model X.prog X.w) X.A X.xe none (EP X pins σ Q) (.ref D) s3.heap.objs.size) s4 := by
    refine compLoop_any (fun n s' => ∃ i H', Inv (X.blk s3 H3 scope ce [z, TI, TO, i1, i2]) [p] (wipe σ (own.map (·.2))) H' s' ∧ ztn a b z TI TO i1 i2 i s'.heap ∧ (∀ c ∈ [z, TI, TO, i1, i2], H' c = none) ∧ W i n H') ?_ m0 ⟨0, H3, J3, st4, hno, w0⟩
    rintro n s5 ⟨i, H5, J5, st5, n5, w5⟩
    rcases turn i n H5 w5 with ⟨stop, qq⟩ | ⟨go, Nx, hNx, step⟩
    · obtain ⟨xs', hq', hl'⟩ := stop
      refine thnF (zdone (X := X.blk s3 H3 scope ce [z, TI, TO, i1, i2]) (E := fun _ _ => False) hot pin1 dj J5 (fokB J5 n5) st5 hq' hl') fun r s6 ⟨hr, J6⟩ => ?_
      subst hr
      have J7 : Inv X pins σ H5 s6 := J1.call' (ch := [z, TI, TO, i1, i2]) J6.os J6.base J6.hok J6.bare fun c hc => ⟨(fok3 c hc).1.2.2.2.1, (fok3 c hc).1.2.1, (fok3 c hc).1.2.2.2.2.1, (fok3 c hc).1.2.2.2.2.2⟩
      have nC : H5 s3.heap.objs.size = none := by have y : H5 ce.locals = none := J6.free; rw [cL] at y; exact y
      obtain ⟨m, hn, _⟩ := J6.loc
      have hn : s6.heap.Ns ce.locals m := hn
      rw [cL] at hn
      refine ⟨m, hn, fun h'' sb => ?_⟩
      obtain ⟨f0, f1, f2, f3, f4, f5⟩ := J1.fpOk (H' := H5) (Nat.le_refl _) nC
      exact ⟨.ref D, H5, J7.turned (t' := s6.toks) (fun c o hb e => (sb.2 c hb).trans e) f0 f1 f3 f4 f5, rfl, qq⟩
    · refine thnF (zitem (X := X.blk s3 H3 scope ce [z, TI, TO, i1, i2]) (E := fun _ _ => False) (elts := [t1, t2]) (kk := kk) (tpos := tpos) dj J5 (fokB J5 n5) st5 go) fun r s6 ⟨u, hr, h6⟩ => ?_
      subst hr
      refine thnF h6 fun _ s7 ⟨x, H7, J7, r7, y7, st7, n7⟩ => ?_
      have J7' := J7.pinned (fokB J7 n7) (ztn_obj st7)
      refine thnF (tupTo (X := X.blk s3 H3 scope ce [z, TI, TO, i1, i2]) hot (by simp) jg (hln _) (hst _) J7' r7 (step x H7 y7)) fun _ s8 ⟨σ8, H8, J8, hw8, q8⟩ => ?_
      refine thnF (jt.run _ s8 σ8 H8 _ J8 q8) fun bb s9 ⟨H9, J9, q9⟩ => ?_
      have fin : ∀ {s' : Shared} {H' : Hp}, Inv (X.blk s3 H3 scope ce [z, TI, TO, i1, i2]) ([p] ++ pinsAt [z, TI, TO, i1, i2] s7.heap) σ8 H' s' → Nx H' → ∃ m, m < n ∧ ∃ i H', Inv (X.blk s3 H3 scope ce [z, TI, TO, i1, i2]) [p] (wipe σ (own.map (·.2))) H' s' ∧ ztn a b z TI TO i1 i2 i s'.heap ∧ (∀ c ∈ [z, TI, TO, i1, i2], H' c = none) ∧ W i m H' := fun {s' H'} J' nx => by
        obtain ⟨m', hm, w'⟩ := hNx H' nx
        have pin' : ∀ c ∈ [z, TI, TO, i1, i2], ∀ o, s7.heap.get? c = some o → s'.heap.get? c = some o ∧ H' c = none := fun c hc o e => let y := J'.pin (c, o) (List.mem_append_right _ (List.mem_append_right _ (mem_pinsAt hc e))); ⟨y.1, y.2.1⟩
        refine ⟨m', hm, i + 1, H', (J'.unpinned (pins := [p])).weak (by rw [← hw8, wipe_length]) (fun j v e => ?_), ztn_keep st7 fun c hc o e => (pin' c hc o e).1, fun c hc => ?_, w'⟩
        · rw [← hw8] at e; exact (wipe_some e).1
        · obtain ⟨o, e, _⟩ := ztn_obj st7 c hc; exact (pin' c hc o e).2
      cases bb with
      | false => simp only [Bool.false_eq_true, if_false] at q9 ⊢; exact fin J9 q9
      | true =>
        simp only [if_true] at q9 ⊢
        exact thnF (je.run _ s9 σ8 H9 _ J9 q9) fun y s10 ⟨yv, H10, J10, r10, acc, hD10, hz10, nx⟩ => app_ok (X := X.blk s3 H3 scope ce [z, TI, TO, i1, i2]) J10 hD10 hz10 r10 fun s11 J11 => fin J11 nx
  exact codeAny_compStart_list loop (wpAny_pyIter_zip st4.1 loop)⟩
end
end ZH
set_option Elab.async false
set_option linter.all false
set_option maxRecDepth 100000
set_option maxHeartbeats 2000000
namespace ZH
open PySem PySem.Spec PyProof.Rows HotX L2 L2H
abbrev SpN := Addr → Value → Option Addr → Hp → VK → Prop
/-- what a def of one parameter promises, called with the exception that is handled -/
structure FnN (P : Program) (w : World) (K : PySem.W.Frag) (mg : Str → Option Value) (base : Heap) (k : Nat) (f : Addr) (fd : FuncData) (x : Str) (sp : SpN) : Prop where
  run : ∀ (A : Around) (outer : List Env) (s : Shared) (H : Hp) (args : Args) (p : Addr × Obj) (cls : Value) (dd : Option Addr) (Q : VK), RoomH k A → Hot1 A p → PinOk outer H s p → Zc cls dd p.2 → (∃ vs, p.2.data = .fields vs) →
    Env0 P w K mg base A outer s H → BindsTo s fd args [(x, .ref p.1)] → sp p.1 cls dd H Q → codeAny (model P w) A (.call (.ref f) args) (CR CX0 outer P w H s Q E0) s
theorem fn_ofN {P : Program} {w : World} {K : PySem.W.Frag} {mg : Str → Option Value} {base : Heap} {k : Nat} {f : Addr} {x y z : Str} {st : Stmt} {fd : FuncData} {N : List Str} {sp : SpN} (F : FunD K x y (defArgs st) (defBody st) (defScope st) [] [] f fd) (S : FnScope N [z] (defScope st))
    (hbody : ∀ (cdv : Value) (A : Around) (outer : List Env) (s : Shared) (H : Hp) (p : Addr × Obj) (cls : Value) (dd : Option Addr) (Q : VK), Hot1 A p → Zc cls dd p.2 → (∃ vs, p.2.data = .fields vs) → RoomH k (A.deeper (envOfC y (defScope st) s.heap.objs.size f cdv)) → sp p.1 cls dd H Q →
      ∃ t, PSs (cxH CX0 P w K mg base N y (defScope st) f cdv A outer s H E0 p) (defBody st) t ∧ t { nx := fun _ H' => Q .non H', rt := Q } (L2.start N [.ref p.1]) H) : FnN P w K mg base (k + 1) f fd z sp := by
  obtain ⟨oc, od, dV, kV, doc, pm, an, cdv, ct, osl, rfl, lk, hcd, hdv, hkv⟩ := F.ex
  refine ⟨fun A outer s H args p cls dd Q hr hot hpin hz hf e0 hb hsp => ?_⟩
  have KX : K.In s.heap := e0.mod.kin.keeps fun b o e => (e0.bs b o e).1
  have lim : s.heap.NoLimit := e0.mod.nolimit.keeps fun b o e => (e0.bs b o e).1
  refine codeAny_call_function hr.depth (KX _ _ lk) rfl S.co S.gen rfl (PySem.W.codeRec_of KX hcd) (hb _ _ _ _ ?_)
  refine wpAny_newFunctionEnv_cells S.kind (fun v hv => ?_) fun env he s1 ic => ?_
  · rcases S.par v.1 (by have : v = (z, Value.ref p.1) := by simpa using hv
                         rw [this]; simp) with q | q
    · exact .inl q
    · exact .inr ⟨q, PySem.W.cellsFrom_some _ _ _ (.inl q)⟩
  · subst he
    refine ⟨lim.keeps ic.toInCall.keep, codeAny_func ?_⟩
    obtain ⟨t, ht, hq⟩ := hbody cdv A outer s H p cls dd Q hot hz hf (hr.deeper _) hsp
    have J : Inv (cxH CX0 P w K mg base N y (defScope st) f cdv A outer s H E0 p) [] (L2.start N [.ref p.1]) H s1 := inv_startH (us := [.ref p.1]) (vs := [.ref p.1]) S hpin e0 rfl (.cons rfl .nil) ic
    refine wpAny_mono (ht.run [] s1 (L2.start N [.ref p.1]) H _ J hq) (fun fl s' hs => ?_) fun e s' hs => hs
    cases fl with
    | ret u => obtain ⟨v, σ', H', J, rv, q⟩ := hs; exact ⟨v, H', J.os, J.bare, J.base, J.hok, rv, q⟩
    | next => obtain ⟨σ', H', J, q⟩ := hs; exact ⟨.non, H', J.os, J.bare, J.base, J.hok, rfl, q⟩
    | brk => obtain ⟨_, _, _, q⟩ := hs; exact q.elim
    | cont => obtain ⟨_, _, _, q⟩ := hs; exact q.elim
theorem takesN0 {X : Cx} : L2N.Takes X (fun _ _ _ _ => False) := fun _ _ ⟨_, _, _, _, _, _, _, _, _, _, _, _, _, _, _, _, z⟩ => z.elim
theorem passN {X : Cx} : Passes (L2N.CX X.prog X.w) X E0 := fun _ _ _ _ _ _ _ h => by
  obtain ⟨_, _, _, _, _, _, _, _, _, _, _, _, z⟩ := h; exact z.elim
/-! ### methods that may raise -/
section
variable {X : Cx} {CX : CXT} {k : Nat} {f C : Addr} {fd : FuncData} {ps : List Str} {sp : Sp} {E : L2.St → XK} {m : Str} {pos apos : Pos} {e o : Expr} {es : List Expr} {ta : TE} {t : TA}
theorem pe_methX {pl : Sem Bool} (he : PE X o ta) (c : Cls X.K C) (hm : Meth X.K C m f) (F : FnOk X.prog X.w X.K X.mg X.base CX k f fd ps sp) (hr : Room k X.A) (hb : Binds X.K fd ps []) (hx : ∀ σ, PassesAt CX X σ (E σ)) (ha : PA X (e :: es) t)
    (hst : starEach (e :: es) X.env = (false, eval e X.env) :: starEach es X.env := by rfl) (hpl : (backTo pos (starEach es X.env)).any (·.1) = false := by rfl)
    (ht : eval (.Call (.Attribute o m apos) (e :: es) [] pos) X.env = (do let ov ← eval o X.env; standAt apos.atName; let (f, first) ← holding [ov] (getMethod ov m pl); callWith pos f first (backTo pos (starEach (e :: es) X.env)) (backToKw pos (keywordEach [] X.env))) := by rfl) : PE X (.Call (.Attribute o m apos) (e :: es) [] pos) (Z.tMethS C m sp E ta t) := ⟨fun pins s σ H Q I h => by
  refine PySem.W.methodCall_KW (pl := pl) (thn (he.run pins s σ H _ I h) fun u s1 ⟨x, H1, I1, rx, a, dx, fs, ex, ea, l, q⟩ => ?_) ht
  subst ex; obtain rfl : u = Value.ref a := rx
  refine getmeth_ok I1 ea c hm l (PySem.W.callWith_K (first := [.ref a]) (h₀ := X.base) I.ok.mod.kin hm.kp (thn (ha.run pos pins s1 σ H1 _ I1 q) fun us s2 ⟨vs, H2, I2, r, q2⟩ => ⟨I2.kIn, ?_⟩) hst hpl)
  exact run_fnS (us := .ref a :: us) (vs := .ref a :: vs) F hr hb (hx σ) I2 (.cons rfl r) q2⟩
theorem pe_methX0 {pl : Sem Bool} (he : PE X o ta) (c : Cls X.K C) (hm : Meth X.K C m f) (F : FnOk X.prog X.w X.K X.mg X.base CX k f fd ps sp) (hr : Room k X.A) (hb : Binds X.K fd ps []) (hx : ∀ σ, PassesAt CX X σ (E σ))
    (ht : eval (.Call (.Attribute o m apos) [] [] pos) X.env = (do let ov ← eval o X.env; standAt apos.atName; let (f, first) ← holding [ov] (getMethod ov m pl); callWith pos f first (backTo pos (starEach [] X.env)) (backToKw pos (keywordEach [] X.env))) := by rfl) : PE X (.Call (.Attribute o m apos) [] [] pos) (Z.tMethS C m sp E ta tNil) := ⟨fun pins s σ H Q I h => by
  refine PySem.W.methodCall_KW (pl := pl) (thn (he.run pins s σ H _ I h) fun u s1 ⟨x, H1, I1, rx, a, dx, fs, ex, ea, l, q⟩ => ?_) ht
  subst ex; obtain rfl : u = Value.ref a := rx
  exact getmeth_ok I1 ea c hm l (PySem.W.callWith_K0 (first := [.ref a]) I1.kIn hm.kp (run_fnS (us := [.ref a]) (vs := [.ref a]) F hr hb (hx σ) I1 (.cons rfl .nil) q))⟩
end
/-! ### an exception that has fields is made -/
theorem pmk_oexN {X : Cx} {CX : CXT} {x : Str} {e : Expr} {es : List Expr} {ta : TA} {p pos : Pos} {C fI : Addr} {k : Nat} {fd : FuncData} {ps : List Str} {sp : Sp} (T : OexC X.K C) (iC : PySem.W.findIn X.K (.ref C) "__init__" = some (some (.ref fI))) (tI : PySem.W.typeIn X.K (.ref fI) = some (.type "function"))
    (F1 : FnOk X.prog X.w X.K X.mg X.base CX k fI fd ps sp) (hr : Room (k + 1) X.A) (hb : Binds X.K fd ps []) (hx : Passes CX X (fun _ _ _ => False)) (hg : Gl X x) (hm : X.mg x = some (.ref C)) (ha : PA X (e :: es) ta)
    (hdb : (x == ("__debug__" : Str)) = false := by decide) (he : starEach (e :: es) X.env = (false, eval e X.env) :: starEach es X.env := by rfl) (hpl : (backTo pos (starEach es X.env)).any (·.1) = false := by rfl) : L2N.PMk X (.Call (.Name x p) (e :: es) [] pos) (tMkO C sp [] ta) := fun pins s σ H Q I h => by
  obtain ⟨nm, q, N, bs, bm, sn, sub, ab, col, dd, k0, k1, k2, k3, k5, hC, hbm⟩ := T.cls
  refine wpAny_Call_Name_kw (ld_glob I hg hm (PySem.W.callWith_K (h₀ := X.base) I.ok.mod.kin T.kC (thn (ha.run pos pins s σ H _ I h) fun us s1 ⟨vs, H1, I1, r1, hz, q1⟩ => ⟨I1.kIn, ?_⟩) he hpl) hdb)
  show wpAny _ _ (call (.ref C) us) _ _ _
  obtain ⟨hp, g, dr, tk, os⟩ := s1
  have hle : hp.objs.size ≤ hp.objs.size + 1 := Nat.le_succ _
  have hq := q1 (hp.objs.size + 1) (I1.hok.fresh hle)
  rw [List.append_nil] at hq
  have grow : ∀ b o, hp.get? b = some o → ((hp.push (PySem.W.kdv_tup us)).push (PySem.HandSPX.excO C hp.objs.size)).get? b = some o := fun b o e => Heap.get?_push_of_some _ (Heap.get?_push_of_some _ e)
  have here : ((hp.push (PySem.W.kdv_tup us)).push (PySem.HandSPX.excO C hp.objs.size)).get? (hp.objs.size + 1) = some (PySem.HandSPX.excO C hp.objs.size) := by heap_get
  have J : Inv X pins σ (upd H1 (hp.objs.size + 1) (exo (hp.objs.size + 1) C none)) ⟨(hp.push (PySem.W.kdv_tup us)).push (PySem.HandSPX.excO C hp.objs.size), g, dr, tk, os⟩ := I1.laid (t' := tk) grow hle (exo_ok here)
  have r2 : Vals (V.ref (hp.objs.size + 1) :: vs) (Value.ref (hp.objs.size + 1) :: us) := .cons rfl r1
  have hl : (Value.ref (hp.objs.size + 1) :: us ++ []).length = ps.length := by have e := r2.length; rw [F1.len _ _ _ _ hq] at e; rw [List.append_nil]; exact e.symm
  have b2 := hb _ (Value.ref (hp.objs.size + 1) :: us) J.kIn hl
  rw [List.append_nil] at b2
  refine wpAny_call (PySem.HandSPX.call_own F.excBase_ValueError (fun Y => PySem.HandSPX.refsVE_contains Y bm hbm) (I1.kIn _ _ hC) (PySem.W.looks_findIn I1.kIn iC) (fun self => PySem.W.bind_fn I1.kIn self tI) (by rw [← Paired.length r1, sizeLine_eq]; omega) (codeAny_mono (F1.run _ X.stack _ _ ⟨Value.ref (hp.objs.size + 1) :: us, []⟩ (Value.ref (hp.objs.size + 1) :: us) _ _ (fun _ _ _ => False) (hr.make C us []) (J.env0.make C us []) b2 r2 hq) fun r s' hq' => ?_))
  cases r with
  | error er => exact hx pins σ _ _ er s' J hq'
  | ok fl =>
    cases fl with
    | ret u =>
      obtain ⟨v, H2, os2, bare2, un2, hok2, rv, ev, d, fs, ea, ed, hd1, q2⟩ := hq'
      subst ev
      obtain ⟨h2, g2, d2, t2, os'⟩ := s'
      obtain ⟨t0, G, J', kG, ge, hoe, na⟩ := mk_end0 (d2 := d2) (t2 := t2) I1 hle grow un2 hok2 os2 bare2 ea ed hd1
      exact ⟨rv, hp.objs.size + 1, _, _, ⟨G, g2, d2, t2, os'⟩, _, .ref C, some d, rfl, J', kG, ge, hoe, ⟨rfl, rfl, fun vs hv => by cases hv; rfl⟩, rfl, rfl, na, rfl, bare2, raises_own T.exC T.tyC, q2⟩
    | next => exact False.elim hq'
    | brk => exact False.elim hq'
    | cont => exact False.elim hq'
/-! ### what is asked of the exception that is handled -/
/-- isinstance(e, c) -/
structure ExT (K : PySem.W.Frag) (D : Addr) : Prop where
  cl : (PySem.W.clsIn K D).isSome = true
  ga : PySem.W.findIn K (.ref D) "__getattribute__" = some (some (.builtin "BaseException.__getattribute__"))
  gt : PySem.W.findIn K (.ref D) "__getattr__" = some none
  sb : PySem.W.subIn K (.ref D) (.type "BaseException") = some true
  ca : PySem.W.findIn K (.ref D) "__class__" = some (some (.builtin "object.__class__"))
  sg : PySem.W.specialIn K (.builtin "object.__class__") "__get__" = some (some (.builtin "getset_descriptor.__get__"))
  tk : PySem.W.takesIn K (.builtin "object.__class__") = some true
  mo : PySem.W.mroIn K D (.type "object") = some true
  hd : PySem.W.hasDictIn K D = true
def extB (K : PySem.W.Frag) (D : Addr) : Bool := (PySem.W.clsIn K D).isSome && (decide (PySem.W.findIn K (.ref D) "__getattribute__" = some (some (.builtin "BaseException.__getattribute__"))) && (decide (PySem.W.findIn K (.ref D) "__getattr__" = some none) && (decide (PySem.W.subIn K (.ref D) (.type "BaseException") = some true) && (decide (PySem.W.findIn K (.ref D) "__class__" = some (some (.builtin "object.__class__"))) &&
  (decide (PySem.W.specialIn K (.builtin "object.__class__") "__get__" = some (some (.builtin "getset_descriptor.__get__"))) && (decide (PySem.W.takesIn K (.builtin "object.__class__") = some true) && (decide (PySem.W.mroIn K D (.type "object") = some true) && PySem.W.hasDictIn K D)))))))
theorem extB_ok {K : PySem.W.Frag} {D : Addr} (h : extB K D = true) : ExT K D := by
  unfold extB at h
  simp only [Bool.and_eq_true, decide_eq_true_eq] at h
  obtain ⟨h1, h2, h3, h4, h5, h6, h7, h8, h9⟩ := h
  exact ⟨h1, h2, h3, h4, h5, h6, h7, h8, h9⟩
def rIsX (K : PySem.W.Frag) (a : Addr) (cls : Value) (dd : Option Addr) : List V → Hp → VK → Prop := fun xs H Q => ∃ (D : Addr) (c : V) (cv : Value) (b : Bool), cls = .ref D ∧ ExT K D ∧ (∀ d, dd = some d → ∃ fs, H d = some (.xd fs)) ∧ xs = [.ref a, c] ∧ (∀ u, RelV c u → u = cv) ∧ PySem.W.kitOne K (.ref D) cv = some b ∧ Q (.bl b) H
theorem call_isX {X : Cx} {a : Addr} {oe : Obj} {cls : Value} {dd : Option Addr} (hp : (a, oe) ∈ X.pn) (hz : Zc cls dd oe) (hf : ∃ vs, oe.data = .fields vs) : CallR X (.builtin "isinstance") (rIsX X.K a cls dd) := by
  intro pins s σ H xs us Q I r h
  obtain ⟨D, c, cv, b, rfl, T, hd, rfl, hcv, e, q⟩ := h
  cases r with
  | cons rx rr =>
    cases rr with
    | cons rt rr =>
      cases rr
      cases rx
      have ec := hcv _ rt
      subst ec
      obtain ⟨hget, _⟩ := I.pin (a, oe) (List.mem_append_left _ hp)
      obtain ⟨vs, hv⟩ := hf
      have fin : ∀ od, PySem.W.InstAt s.heap a oe D od → wpAny (model X.prog X.w) X.A (call (.builtin "isinstance") [Value.ref a, _]) (EP X pins σ Q) X.xe s := fun od J =>
        PySem.W.kia_one (PySem.W.kitx_exc T.cl T.ga T.gt T.sb T.ca T.sg T.tk T.mo) I.kIn J e (fun z => nomatch z) fun tk => ⟨.bl b, H, I.kept (t' := tk) fun _ _ z => z, rfl, q⟩
      cases dd with
      | none => exact fin none ⟨hget, hz.1, by unfold PySem.W.notCls; rw [hv] <;> rfl, by rw [hz.2]; trivial⟩
      | some d =>
        obtain ⟨fs, hfs⟩ := hd d rfl
        obtain ⟨mA, hns, hr⟩ : ObjOk X.prog X.w H s.heap d (.xd fs) := I.hok d _ hfs
        obtain ⟨od, ho, hl⟩ := lookIn_ns hns
        exact fin (some od) ⟨hget, hz.1, by unfold PySem.W.notCls; rw [hv] <;> rfl, by rw [hz.2]; exact ho⟩
/-- f(e), f promising by FnN -/
def tCallN (a : Addr) (cls : Value) (dd : Option Addr) (sp : SpN) (te : TE) : TE := fun σ H Q => te σ H fun v H1 => v = .ref a ∧ sp a cls dd H1 Q
theorem pe_callN {X : Cx} {a : Addr} {oe : Obj} {cls : Value} {dd : Option Addr} {pn : List (Addr × Obj)} {k : Nat} {f : Addr} {fd : FuncData} {x z : Str} {sp : SpN} {e : Expr} {te : TE} {q pos : Pos} (F : FnN X.prog X.w X.K X.mg X.base k f fd z sp) (hr : Room k X.A) (hz : L2N.Zn cls dd oe) (hf : ∃ vs, oe.data = .fields vs) (hg : Gl X x) (hm : X.mg x = some (.ref f))
    (hk : PySem.W.keepIn X.K (.ref f) = true) (hb : Binds X.K fd [z] []) (hap : PA (X.suite a ((a, oe) :: pn)) [e] (tCons te tNil)) (hdb : (x == ("__debug__" : Str)) = false := by decide) (hst : starEach [e] X.env = (false, eval e X.env) :: starEach [] X.env := by rfl) (hpl : (backTo pos (starEach ([] : List Expr) X.env)).any (·.1) = false := by rfl) :
    PE (X.suite a ((a, oe) :: pn)) (.Call (.Name x q) [e] [] pos) (tCallN a cls dd sp te) := ⟨fun pins s σ H Q I h => by
  refine wpAny_Call_Name_kw (ld_glob I hg hm (PySem.W.callWith_K (h₀ := X.base) I.ok.mod.kin hk (thn (hap.run pos pins s σ H (fun vs H1 => vs = [.ref a] ∧ sp a cls dd H1 Q) I ?_) fun us s1 ⟨vs, H1, I1, r, ev, qq⟩ => ⟨I1.kIn, ?_⟩) hst hpl) hdb)
  · show te σ H _
    have h' : te σ H fun v H1 => v = .ref a ∧ sp a cls dd H1 Q := h
    refine (?_ : (fun v H1 => v = V.ref a ∧ sp a cls dd H1 Q) = fun v H1 => (tNil σ H1 fun vs H2 => (v :: vs) = [V.ref a] ∧ sp a cls dd H2 Q)) ▸ h'
    funext v H1
    exact propext ⟨fun ⟨e1, e2⟩ => ⟨by rw [e1], e2⟩, fun ⟨e1, e2⟩ => ⟨by cases e1; rfl, e2⟩⟩
  · subst ev
    obtain ⟨u, rfl, ru⟩ : ∃ u, us = [u] ∧ RelV (.ref a) u := by cases r with | cons r rr => cases rr; exact ⟨_, rfl, r⟩
    obtain rfl : u = Value.ref a := ru
    obtain ⟨vs, hv⟩ := hf
    have P1 := I1.pin (a, oe) (List.mem_append_left _ List.mem_cons_self)
    have hot : Hot1 (X.suite a ((a, oe) :: pn)).A (a, oe) := ⟨rfl, vs, hv, hz.2.2 vs hv⟩
    have b := hb s1 [.ref a] I1.kIn rfl
    rw [List.append_nil] at b
    refine wpAny_call (codeAny_mono (F.run _ X.stack s1 H1 ⟨[.ref a], []⟩ (a, oe) cls dd Q ⟨hr.dp, hr.un⟩ hot ⟨P1.1, P1.2.1, fun hmm => (List.mem_cons.mp (I1.stkSub a hmm)).elim P1.2.2.1 P1.2.2.2.1, P1.2.2.2.2⟩ hz.zc ⟨vs, hv⟩ I1.env0 b qq) fun r s' hq => ?_)
    cases r with
    | error e => exact pass0 _ _ _ _ _ _ I1 hq
    | ok fl =>
      cases fl with
      | ret u => exact I1.after hq
      | next => exact hq.elim
      | brk => exact hq.elim
      | cont => exact hq.elim⟩
end ZH
set_option Elab.async false
set_option linter.all false
set_option maxRecDepth 100000
set_option maxHeartbeats 1000000
namespace Z
open PySem L2
/-! ### zip -/
def zipD (xs ys : List D) : List D := List.zipWith (fun x y => .tuple [x, y]) xs ys
def twoL : List D → Option (List D × List D)
  | [.list xs, .list ys] => some (xs, ys)
  | _ => none
def mZip (ml : M (List D)) : M (List D) := bnd ml fun es => opt ((twoL es).map fun p => zipD p.1 p.2)
/-- the first is no longer -/
def twoLe (es : List D) : Option (List D × List D) := match twoL es with
  | some p => if p.1.length ≤ p.2.length then some p else none
  | none => none
def mZip1 (ml : M (List D)) : M (List D) := bnd ml fun es => opt ((twoLe es).map fun p => zipD p.1 p.2)
theorem twoL_eq {es : List D} {p : List D × List D} (h : twoL es = some p) : es = [.list p.1, .list p.2] := by
  unfold twoL at h
  split at h
  · cases h; rfl
  · cases h
section
variable {K : Fg} {c : Ctx} {O : List Kd}
theorem zip_go {F : Hp} {a b : Addr} {xs ys : List V} {es fs : List D} (hq : SqL K F a xs) (hr : SqL K F b ys) (al : DpAll K F xs es) (bl : DpAll K F ys fs) {F1 H1 : Hp} {i : Nat} (s1 : Same F F1) (s2 : Same F1 H1) {d : D} (hd : (zipD es fs)[i]? = some d) :
    (Itz K a b).go i H1 ∧ ∀ x H2, (Itz K a b).yld i H1 x H2 → ∃ F2, Grow F1 H1 F2 H2 ∧ Dp K F2 x d := by
  have hq1 := sqL_mono s2 (sqL_mono s1 hq)
  have hr1 := sqL_mono s2 (sqL_mono s1 hr)
  unfold zipD at hd
  rw [List.getElem?_zipWith] at hd
  cases hx : es[i]? with
  | none => rw [hx] at hd; cases hd
  | some x =>
    cases hy : fs[i]? with
    | none => rw [hx, hy] at hd; cases hd
    | some y =>
      rw [hx, hy] at hd
      cases hd
      obtain ⟨v, hv, dp⟩ := dpa_get al hx
      obtain ⟨u, hu, dq⟩ := dpa_get bl hy
      refine ⟨⟨xs, ys, v, u, hq1, hr1, hv, hu⟩, fun z H2 hz => ?_⟩
      obtain ⟨T, x', y', rfl, hT, rfl, hx', hy'⟩ := hz
      have e1 := hx' xs hq1
      have e2 := hy' ys hr1
      rw [hv] at e1
      rw [hu] at e2
      cases e1
      cases e2
      have s3 : Same F1 (upd F1 T (.tup [v, u])) := same_upd (s2.free hT)
      exact ⟨_, .new _ hT, .tup (SqT.of upd_same) (.cons (dp_mono s3 (dp_mono s1 dp)) (.cons (dp_mono s3 (dp_mono s1 dq)) .nil))⟩
theorem zipD_len {es fs : List D} : (zipD es fs).length = min es.length fs.length := by unfold zipD; rw [List.length_zipWith]
theorem i_zip {tl : TA} {ml : M (List D)} (h : DA K c O tl ml) : DI K c O (iZip K tl) (mZip ml) := ⟨fun {F H σ fps ds ds' xs} r e R q => by
  obtain ⟨es, s1, e1, g1⟩ := bnd_ok e
  obtain ⟨g2, z⟩ := opt_ok g1
  subst z
  cases hp : twoL es with
  | none => rw [hp] at g2; cases g2
  | some p =>
    rw [hp] at g2
    cases g2
    have he := twoL_eq hp
    refine h.run r e1 _ fun F1 H1 fps1 vs sF r1 al => ?_
    subst he
    cases al with
    | cons dp al =>
      cases al with
      | cons dq al =>
        cases al
        cases dp with
        | lst hq al =>
          cases dq with
          | lst hr bl =>
            refine ⟨_, _, _, _, rfl, sqL_mono r1.sub hq, sqL_mono r1.sub hr, q F1 H1 fps1 _ sF r1 fun F2 H2 i s1 s2 => ⟨fun d hd => zip_go hq hr al bl s1 s2 hd, fun hi => ⟨_, _, sqL_mono s2 (sqL_mono s1 hq), sqL_mono s2 (sqL_mono s1 hr), ?_⟩⟩⟩
            rw [zipD_len] at hi
            have l1 := dpa_len al
            have l2 := dpa_len bl
            omega⟩
theorem i_zip1 {tl : TA} {ml : M (List D)} (h : DA K c O tl ml) : DI K c O (ZH.iZip1 K tl) (mZip1 ml) := ⟨fun {F H σ fps ds ds' xs} r e R q => by
  obtain ⟨es, s1, e1, g1⟩ := bnd_ok e
  obtain ⟨g2, z⟩ := opt_ok g1
  subst z
  unfold twoLe at g2
  cases hp : twoL es with
  | none => rw [hp] at g2; cases g2
  | some p =>
    rw [hp] at g2
    dsimp only at g2
    split at g2
    · rename_i hle
      cases g2
      have he := twoL_eq hp
      refine h.run r e1 _ fun F1 H1 fps1 vs sF r1 al => ?_
      subst he
      cases al with
      | cons dp al =>
        cases al with
        | cons dq al =>
          cases al
          cases dp with
          | lst hq al =>
            cases dq with
            | lst hr bl =>
              refine ⟨_, _, _, _, rfl, sqL_mono r1.sub hq, sqL_mono r1.sub hr, q F1 H1 fps1 _ sF r1 fun F2 H2 i s1 s2 => ⟨fun d hd => zip_go hq hr al bl s1 s2 hd, fun hi => ⟨_, sqL_mono s2 (sqL_mono s1 hq), ?_⟩⟩⟩
              rw [zipD_len] at hi
              have l1 := dpa_len al
              omega
    · cases g2⟩
/-! ### sep.join(texts) -/
def strsD : List D → Option (List Str)
  | [] => some []
  | .str x :: r => (strsD r).map (x :: ·)
  | _ => none
def joinD (sep : Str) (d : D) : Option D := match d with
  | .list ds => match strsD ds with
    | some ys => if (ys.map (·.length)).sum + ys.length * sep.length ≤ 16777216 then some (.str (PySem.Txt.join sep ys)) else none
    | none => none
  | _ => none
def mJoin (sep : Str) (m : M D) : M D := bnd m fun d => opt (joinD sep d)
theorem strs_dp {F : Hp} : ∀ {vs : List V} {ds : List D} {ys : List Str}, DpAll K F vs ds → strsD ds = some ys → vs = ys.map V.str
  | _, _, _, .nil, e => by cases e; rfl
  | _, _, _, .cons (d := d) dp al, e => by
    cases d with
    | str x =>
      unfold strsD at e
      rename_i vs ds
      cases z : strsD ds with
      | none => rw [z] at e; cases e
      | some r =>
        rw [z] at e
        cases e
        cases dp
        rw [strs_dp al z]
        rfl
    | _ => cases e
theorem d_join {sep : Str} {te : TE} {m : M D} (h : DE K c O te m) : DE K c O (tBM K "str" (fun x xs H Q => ∃ a p, ∃ ys : List Str, x = .str a ∧ xs = [.ref p] ∧ (SqL K H p (ys.map V.str) ∨ SqT K H p (ys.map V.str)) ∧ (ys.map (·.length)).sum + ys.length * a.length ≤ 16777216 ∧ Q (.str (PySem.Txt.join a ys)) H) (tC (.str sep)) (tCons te tNil)) (mJoin sep m) := ⟨fun {F H σ fps ds ds' d} r e Q q => by
  obtain ⟨x, s1, e1, g1⟩ := bnd_ok e
  obtain ⟨g2, z⟩ := opt_ok g1
  subst z
  refine ⟨(rfl : "str" = "str"), h.run r e1 _ fun F1 H1 fps1 v sF r1 dp => ?_⟩
  unfold joinD at g2
  split at g2
  · split at g2
    · rename_i ys hy
      split at g2
      · rename_i hz
        cases g2
        cases dp with
        | lst hq al =>
          rw [strs_dp al hy] at hq
          exact ⟨sep, _, ys, rfl, rfl, .inl (sqL_mono r1.sub hq), hz, q F1 H1 fps1 _ sF r1 (.str _)⟩
      · cases g2
    · cases g2
  · cases g2⟩
end
end Z
set_option Elab.async false
set_option linter.all false
set_option maxRecDepth 100000
set_option maxHeartbeats 1000000
namespace Z
open PySem L2
/-! ### the exception that is handled: its fields, its class, its name -/
theorem FsR.mono {K : Fg} {F F' : Hp} (s : Same F F') : ∀ {ws : List (Str × V)} {fs : List (Str × D)}, FsR K F ws fs → FsR K F' ws fs
  | _, _, .nil => .nil
  | _, _, .cons h r => .cons (dp_mono s h) (r.mono s)
theorem ExOk.mono {K : Fg} {mg : Str → Option Value} {F F' : Hp} {x : Xc} {cls : Value} {dd : Option Addr} (s : Same F F') (h : ExOk K mg F x cls dd) : ExOk K mg F' x cls dd :=
  ⟨h.1, h.2.imp id fun ⟨d, ws, e, hf, r⟩ => ⟨d, ws, e, s _ _ hf, r.mono s⟩⟩
theorem FsR.get {K : Fg} {F : Hp} {f : Str} {d : D} : ∀ {ws : List (Str × V)} {fs : List (Str × D)}, FsR K F ws fs → fs.lookup f = some d → ∃ v, ws.lookup f = some v ∧ Dp K F v d
  | _, _, .nil, e => by cases e
  | _, _, .cons (f := g) h r, e => by
    rw [List.lookup_cons] at e ⊢
    split at e
    · cases e
      exact ⟨_, rfl, h⟩
    · exact r.get e
def hereM {α : Type} (i : Nat) (o : Option α) : M α := fun s => match s[i]? with
  | some (some _) => opt o s
  | _ => .no
/-- e.f, e of the class xn -/
def fldX (x : Xc) (xn f : Str) : Option D := if x.c = xn then x.fs.lookup f else none
section
variable {K : Fg} {c : Ctx} {O : List Kd} {x : Xc} {a : Addr} {cls : Value} {dd : Option Addr}
theorem here_ok {α : Type} {i : Nat} {o : Option α} {F H : Hp} {σ : St} {fps : Nat → List Addr} {ds ds' : DS} {v : α} (r : Rel K c O F H σ fps ds) (hk : O.getD i .sh = .xr a) (e : hereM i o ds = .ok v ds') : σ[i]? = some (some (.ref a)) ∧ o = some v ∧ ds' = ds := by
  unfold hereM at e
  split at e
  · rename_i d hd
    obtain ⟨e1, e2⟩ := opt_ok e
    obtain ⟨u, hu, ow⟩ := r.slots i d hd
    rw [hk] at ow
    obtain ⟨rfl, _⟩ := ow
    exact ⟨hu, e1, e2⟩
  · cases e
theorem d_xf (i : Nat) {C : Addr} {xn f : Str} (hk : O.getD i .sh = .xr a) (ex : ExOk K c.mg c.F0 x cls dd) (hC : c.mg xn = some (.ref C)) : DE K c O (tXf a cls dd C f (tVar i)) (hereM i (fldX x xn f)) := ⟨fun {F H σ fps ds ds' d} r e Q q => by
  obtain ⟨hu, e1, rfl⟩ := here_ok r hk e
  unfold fldX at e1
  split at e1
  · rename_i hx
    have ex' := ex.mono r.base
    obtain ⟨h1, h2⟩ := ex'
    rw [hx, hC] at h1
    cases h1
    rcases h2 with ⟨h2, _⟩ | ⟨d0, ws, rfl, hf, fr⟩
    · rw [h2] at e1; cases e1
    · obtain ⟨v, hv, dp⟩ := fr.get e1
      exact ⟨_, hu, rfl, rfl, d0, ws, v, rfl, r.sub _ _ hf, hv, q F H fps v (Same.refl _) r dp⟩
  · cases e1⟩
/-- isinstance(e, C) -/
theorem d_isX (i : Nat) {cv : Value} {v : V} {tbl : Str → Option Bool} (hk : O.getD i .sh = .xr a) (ex : ExOk K c.mg c.F0 x cls dd) (hcv : ∀ u, RelV v u → u = cv) (ht : ∀ n b, tbl n = some b → ∃ D, c.mg n = some (.ref D) ∧ ZH.ExT K D ∧ PySem.W.kitOne K (.ref D) cv = some b) :
    DE K c O (tCB (ZH.rIsX K a cls dd) (tCons (tVar i) (tCons (tC v) tNil))) (hereM i ((tbl x.c).map .bool)) := ⟨fun {F H σ fps ds ds' d} r e Q q => by
  obtain ⟨hu, e1, rfl⟩ := here_ok r hk e
  cases z : tbl x.c with
  | none => rw [z] at e1; cases e1
  | some b =>
    rw [z] at e1
    cases e1
    obtain ⟨D, hD, T, kit⟩ := ht _ _ z
    have ex' := ex.mono r.base
    obtain ⟨h1, h2⟩ := ex'
    rw [hD] at h1
    cases h1
    refine ⟨_, hu, D, v, cv, b, rfl, T, fun d0 e0 => ?_, rfl, hcv, kit, q F H fps (.bl b) (Same.refl _) r (.bl b)⟩
    rcases h2 with ⟨_, h2⟩ | ⟨d1, ws, e2, hf, _⟩
    · rw [h2] at e0; cases e0
    · rw [e2] at e0; cases e0
      exact ⟨ws, r.sub _ _ hf⟩⟩
/-- what a def that tells an exception's name promises -/
def spNm (K : Fg) (mg : Str → Option Value) (nmT : Str → Option Str) : ZH.SpN := fun _ cls dd H Q => ∃ (F : Hp) (x : Xc) (n : Str), Same F H ∧ ExOk K mg F x cls dd ∧ nmT x.c = some n ∧
  ∀ F' H', Same F F' → Same F' H' → (∀ b o, H b = some o → H' b = some o) → (∀ b, H' b = none → H b = none) → (∀ b o, F' b = some o → F b = some o ∨ H b = none) → Q (.str n) H'
theorem d_nm (i : Nat) {nmT : Str → Option Str} {mg : Str → Option Value} (hk : O.getD i .sh = .xr a) (hmg : c.mg = mg) (ex : ExOk K c.mg c.F0 x cls dd) : DE K c O (ZH.tCallN a cls dd (spNm K mg nmT) (tVar i)) (hereM i ((nmT x.c).map .str)) := ⟨fun {F H σ fps ds ds' d} r e Q q => by
  obtain ⟨hu, e1, rfl⟩ := here_ok r hk e
  cases z : nmT x.c with
  | none => rw [z] at e1; cases e1
  | some n =>
    rw [z] at e1
    cases e1
    refine ⟨_, hu, rfl, F, x, n, r.sub, by rw [← hmg]; exact ex.mono r.base, z, fun F' H' s1 s2 kp lv nw => q F' H' fps (.str n) s1 ?_ (.str n)⟩
    exact r.call0 (ps := []) (vs := []) (args' := []) (gps' := fun _ => []) ⟨s1, s2, fun b o e _ => kp b o e, fun b e => .inl (lv b e), fun b o e => (nw b o e).imp id .inl, fun i k e h => by simp at h, fun i q h => by simp [isPm] at h, fun _ => by simp, fun _ _ _ _ h => by simp at h⟩⟩
end
theorem fn_okNm {P : Program} {w : World} {K : Fg} {mg : Str → Option Value} {base : Heap} {xn z : Str} {st : Stmt} {f : Addr} {fd : FuncData} {N : List Str} {k : Nat} {b : Xc → MS} {O1 : Addr → List Kd} {nmT : Str → Option Str} (F : FnP K xn st f fd) (S : FnScope N [z] (defScope st)) (hN : 1 ≤ N.length)
    (h : ∀ (cdv : Value) (A : Around) (outer : List Env) (s : Shared) (H : Hp) (p : Addr × Obj) (cls : Value) (dd : Option Addr), L2H.Hot1 A p → Zc cls dd p.2 → (∃ vs, p.2.data = .fields vs) → L2H.RoomH k (A.deeper (PyProof.Rows.envOfC xn (defScope st) s.heap.objs.size f cdv)) →
      ∃ t, PSs (L2H.cxH CX0 P w K mg base N xn (defScope st) f cdv A outer s H E0 p) (defBody st) t ∧ ∀ (c : Ctx) (x : Xc), c.rk = .sh → c.mg = mg → ExOk K c.mg c.F0 x cls dd → DC K c [] (.xr p.1 :: List.replicate (N.length - 1) .sh) t (b x) (O1 p.1))
    (hv : ∀ x n, nmT x.c = some n → ∃ s', b x (entry N.length [.none]) = .rt (.str n) s') : ZH.FnN P w K mg base (k + 1) f fd z (spNm K mg nmT) := by
  refine ZH.fn_ofN F S fun cdv A outer s H p cls dd Q hot hz hf hr hsp => ?_
  obtain ⟨t, ht, hd⟩ := h cdv A outer s H p cls dd hot hz hf hr
  refine ⟨t, ht, ?_⟩
  obtain ⟨F0, x, n, sF, ex, hn, q⟩ := hsp
  obtain ⟨s', hs'⟩ := hv x n hn
  let c : Ctx := { F0 := F0, H0 := H, ow := fun _ _ => False, ps := ([], []), pk := fun _ => none, rk := .sh, arg := fun _ => .non, mg := mg, W := fun _ _ _ _ => False, Ox := none }
  refine (hd c x rfl rfl ex).run (F := F0) (H := H) (σ := L2.start N [.ref p.1]) (fps := fun _ => []) (ds := entry N.length [.none]) ?_ _ ?_
  · refine ⟨sF, Same.refl _, fun b o e _ => e, fun b e => e, fun b o e => .inl e, fun i d hd => ?_, fun i q hq => absurd hq (by simp), fun _ => by simp, fun _ _ _ _ hq => absurd hq (by simp), fun i k hk => by simp [c] at hk, ?_⟩
    · cases i with
      | zero => exact ⟨.ref p.1, rfl, rfl, rfl⟩
      | succ i =>
        unfold entry at hd
        rw [List.map_cons, List.map_nil, List.cons_append, List.nil_append, List.getElem?_cons_succ, List.getElem?_replicate] at hd
        split at hd <;> cases hd
    · unfold L2.start entry
      simp
  · rw [hs']
    refine fun F' H' σ' fps' O'' v fpv s1 r' ow _ _ => ?_
    obtain ⟨_, dp⟩ := ow
    cases dp
    exact q F' H' s1 r'.sub (fun b o e => r'.keep b o e fun ⟨_, z⟩ => z) (fun b e => r'.live b e) fun b o e => r'.new b o e
/-! ### what these come to -/
section
variable {s : DS} {Nx Bk Ct : DS → Prop} {Ex : Xc → DS → Prop} {Rt : D → DS → Prop}
def EvX0 (m : MX) (s : DS) (Q : D → DS → Prop) (E : Xc → DS → Prop) (_ : W5 m Q E () () := Unit.unit) : Prop := match m s with
  | .ok d s' => Q d s'
  | .ex x s' => E x s'
  | .no => False
def ClX0 (f : FD) (xs : List D) (Q : D → List D → Prop) (E : Xc → List D → Prop) (_ : W5 f Q E () () := Unit.unit) : Prop := match f xs with
  | .ok d as => Q d as
  | .ex x as => E x as
  | .no => False
@[irreducible] def EvX (m : MX) (s : DS) (Q : D → DS → Prop) (E : Xc → DS → Prop) (_ : W5 m Q E () () := Unit.unit) : Prop := EvX0 m s Q E
@[irreducible] def ClX (f : FD) (xs : List D) (Q : D → List D → Prop) (E : Xc → List D → Prop) (_ : W5 f Q E () () := Unit.unit) : Prop := ClX0 f xs Q E
theorem clX_of {f : FD} {xs : List D} {Q : D → List D → Prop} {E : Xc → List D → Prop} (h : Cl f xs Q) : ClX f xs Q E := by
  obtain ⟨d, as, e, q⟩ := h.out
  have : ClX0 f xs Q E := by unfold ClX0; rw [e]; exact q
  with_unfolding_all exact this
theorem clX_mono {f : FD} {xs : List D} {Q Q' : D → List D → Prop} {E E' : Xc → List D → Prop} (h : ClX f xs Q E) (g : ∀ d as, Q d as → Q' d as) (g' : ∀ x as, E x as → E' x as) : ClX f xs Q' E' := by
  have h0 : ClX0 f xs Q E := by with_unfolding_all exact h
  have : ClX0 f xs Q' E' := by
    unfold ClX0 at h0 ⊢
    cases e : f xs with
    | ok d as => rw [e] at h0; exact g d as h0
    | ex x as => rw [e] at h0; exact g' x as h0
    | no => rw [e] at h0; exact h0
  with_unfolding_all exact this
/-- a call that raises nothing, as a plain one -/
theorem cl_of_X {f : FD} {xs : List D} {Q : D → List D → Prop} (h : ClX f xs Q fun _ _ => False) : Cl f xs Q := by
  have h0 : ClX0 f xs Q fun _ _ => False := by with_unfolding_all exact h
  unfold ClX0 at h0
  cases e : f xs with
  | ok d as => rw [e] at h0; exact .of e h0
  | ex x as => rw [e] at h0; exact h0.elim
  | no => rw [e] at h0; exact h0.elim
theorem fn_clX_0 {N n : Nat} {rk : Kd} {b : MS} {args : List D} {Q : D → List D → Prop} {E : Xc → List D → Prop} (hl : args.length = n) (h : Run0 b (entry N args) (fun s => rk = .sh ∧ So0 ((List.range n).mapM (look s)) fun as => Q .none as) (fun d s => So0 ((List.range n).mapM (look s)) fun as => Q d as) (fun _ => False) (fun _ => False) (fun x s => So0 ((List.range n).mapM (look s)) fun as => E x as)) :
    ClX0 (fnD N n rk b) args Q E := by
  unfold Run0 at h
  unfold ClX0 fnD
  rw [if_pos hl]
  cases e : b (entry N args) with
  | rt d s =>
    rw [e] at h
    dsimp only [leave, So0] at h ⊢
    cases z : (List.range n).mapM (look s) with
    | none => rw [z] at h; exact h
    | some as => rw [z] at h; exact h
  | nx s =>
    rw [e] at h
    obtain ⟨h1, h2⟩ := h
    dsimp only [So0] at h2 ⊢
    rw [if_pos h1]
    unfold leave
    cases z : (List.range n).mapM (look s) with
    | none => rw [z] at h2; exact h2
    | some as => rw [z] at h2; exact h2
  | ex x s =>
    rw [e] at h
    dsimp only [leaveX, So0] at h ⊢
    cases z : (List.range n).mapM (look s) with
    | none => rw [z] at h; exact h
    | some as => rw [z] at h; exact h
  | bk s => rw [e] at h; exact h
  | ct s => rw [e] at h; exact h
  | no => rw [e] at h; exact h
theorem fn_clX {N n : Nat} {rk : Kd} {b : MS} {args : List D} {Q : D → List D → Prop} {E : Xc → List D → Prop} (hl : args.length = n) (h : Run b (entry N args) (fun s => rk = .sh ∧ So ((List.range n).mapM (look s)) fun as => Q .none as) (fun d s => So ((List.range n).mapM (look s)) fun as => Q d as) (fun _ => False) (fun _ => False) (fun x s => So ((List.range n).mapM (look s)) fun as => E x as)) :
    ClX (fnD N n rk b) args Q E := by with_unfolding_all exact fn_clX_0 hl h
theorem evX_of_0 {m : M D} {Q : D → DS → Prop} {E : Xc → DS → Prop} : EvX0 (xOf m) s Q E = Ev0 m s Q := by
  unfold EvX0 xOf Ev0
  cases m s <;> rfl
theorem evX_of {m : M D} {Q : D → DS → Prop} {E : Xc → DS → Prop} : EvX (xOf m) s Q E = Ev m s Q := by with_unfolding_all exact evX_of_0
theorem xv_xcall_0 {f : FD} {n : Nat} {a : M (List D)} {Q : D → DS → Prop} {E : Xc → DS → Prop} : EvX0 (xCall f n a) s Q E = Ev0 a s fun xs s' => xs.length = n ∧ ClX0 f xs (fun d _ => Q d s') fun x _ => E x s' := by
  unfold EvX0 xCall Ev0
  cases a s with
  | no => rfl
  | ok xs s' =>
    dsimp only
    by_cases h : xs.length = n
    · rw [if_pos h]
      dsimp only [ClX0]
      cases f xs <;> simp [h]
    · rw [if_neg h]; simp [h]
theorem xv_xcall {f : FD} {n : Nat} {a : M (List D)} {Q : D → DS → Prop} {E : Xc → DS → Prop} : EvX (xCall f n a) s Q E = Ev a s fun xs s' => xs.length = n ∧ ClX f xs (fun d _ => Q d s') fun x _ => E x s' := by with_unfolding_all exact xv_xcall_0
theorem xv_xcall1_0 {f : FD} {n j : Nat} {a : M (List D)} {Q : D → DS → Prop} {E : Xc → DS → Prop} : EvX0 (xCall1 f n j a) s Q E = So0 (look s j) fun _ => Ev0 a s fun xs s' => So0 (look s' j) fun e => xs.length = n ∧ ClX0 f (e :: xs) (fun d as => So0 (hdO as) fun e' => Q d (s'.set j (some e'))) fun x as => So0 (hdO as) fun e' => E x (s'.set j (some e')) := by
  unfold look
  dsimp only [EvX0, xCall1, Ev0]
  cases s[j]? with
  | none => rfl
  | some o =>
    cases o with
    | none => rfl
    | some d0 =>
      dsimp only [So0]
      cases a s with
      | no => rfl
      | ok xs s' =>
        dsimp only
        cases s'[j]? with
        | none => rfl
        | some o =>
          cases o with
          | none => rfl
          | some e =>
            dsimp only
            by_cases h : xs.length = n
            · rw [if_pos h]
              dsimp only [ClX0]
              cases f (e :: xs) with
              | ok d as => cases as <;> simp [h, hdO]
              | ex x as => cases as <;> simp [h, hdO]
              | no => simp [h]
            · rw [if_neg h]; simp [h]
theorem xv_xcall1 {f : FD} {n j : Nat} {a : M (List D)} {Q : D → DS → Prop} {E : Xc → DS → Prop} : EvX (xCall1 f n j a) s Q E = So (look s j) fun _ => Ev a s fun xs s' => So (look s' j) fun e => xs.length = n ∧ ClX f (e :: xs) (fun d as => So (hdO as) fun e' => Q d (s'.set j (some e'))) fun x as => So (hdO as) fun e' => E x (s'.set j (some e')) := by with_unfolding_all exact xv_xcall1_0
theorem xv_xcallG_0 {f : FD} {js : JS} {a : M (List D)} {Q : D → DS → Prop} {E : Xc → DS → Prop} : EvX0 (xCallG f js a) s Q E = Ev0 a s fun xs s' => So0 (fillG s' js xs) fun args => ClX0 f args (fun d as => as.length = js.length ∧ Q d (backG js as s')) fun x as => as.length = js.length ∧ E x (backG js as s') := by
  unfold EvX0 xCallG Ev0
  cases a s with
  | no => rfl
  | ok xs s' =>
    dsimp only
    cases fillG s' js xs with
    | none => rfl
    | some args =>
      dsimp only [So0, ClX0]
      cases f args with
      | no => rfl
      | ok d as => by_cases h : as.length = js.length <;> simp [h]
      | ex x as => by_cases h : as.length = js.length <;> simp [h]
theorem xv_xcallG {f : FD} {js : JS} {a : M (List D)} {Q : D → DS → Prop} {E : Xc → DS → Prop} : EvX (xCallG f js a) s Q E = Ev a s fun xs s' => So (fillG s' js xs) fun args => ClX f args (fun d as => as.length = js.length ∧ Q d (backG js as s')) fun x as => as.length = js.length ∧ E x (backG js as s') := by with_unfolding_all exact xv_xcallG_0
theorem xv_xmeth_0 {f : FD} {m : Str} {n j : Nat} {a : M (List D)} {Q : D → DS → Prop} {E : Xc → DS → Prop} : EvX0 (xMeth f m n j a) s Q E = So0 (look s j) fun e => So0 (noFd m e) fun _ => EvX0 (xCall1 f n j a) s Q E := by
  unfold EvX0 xMeth
  cases look s j with
  | none => rfl
  | some e =>
    dsimp only [So0]
    cases noFd m e <;> rfl
theorem xv_xmeth {f : FD} {m : Str} {n j : Nat} {a : M (List D)} {Q : D → DS → Prop} {E : Xc → DS → Prop} : EvX (xMeth f m n j a) s Q E = So (look s j) fun e => So (noFd m e) fun _ => EvX (xCall1 f n j a) s Q E := by with_unfolding_all exact xv_xmeth_0
theorem xv_xop_0 {g : D → D → Option D} {a : MX} {b : M D} {Q : D → DS → Prop} {E : Xc → DS → Prop} : EvX0 (xOp g a b) s Q E = EvX0 a s (fun x s1 => Ev0 b s1 fun y s2 => So0 (g x y) fun z => Q z s2) E := by
  unfold EvX0 xOp Ev0
  cases a s with
  | no => rfl
  | ex x s1 => rfl
  | ok x s1 =>
    dsimp only
    cases b s1 with
    | no => rfl
    | ok y s2 =>
      dsimp only [So0]
      cases g x y <;> rfl
theorem xv_xop {g : D → D → Option D} {a : MX} {b : M D} {Q : D → DS → Prop} {E : Xc → DS → Prop} : EvX (xOp g a b) s Q E = EvX a s (fun x s1 => Ev b s1 fun y s2 => So (g x y) fun z => Q z s2) E := by with_unfolding_all exact xv_xop_0
theorem xv_xtup_0 {a : MX} {Q : D → DS → Prop} {E : Xc → DS → Prop} : EvX0 (xTup1 a) s Q E = EvX0 a s (fun x s1 => Q (.tuple [x]) s1) E := by
  unfold EvX0 xTup1
  cases a s <;> rfl
theorem xv_xtup {a : MX} {Q : D → DS → Prop} {E : Xc → DS → Prop} : EvX (xTup1 a) s Q E = EvX a s (fun x s1 => Q (.tuple [x]) s1) E := by with_unfolding_all exact xv_xtup_0
theorem xv_xif_0 {t : M Bool} {a b : MX} {Q : D → DS → Prop} {E : Xc → DS → Prop} : EvX0 (xIf t a b) s Q E = Ev0 t s fun v s1 => Br0 v (EvX0 a s1 Q E) (EvX0 b s1 Q E) := by
  unfold EvX0 xIf Ev0
  cases t s with
  | no => rfl
  | ok v s1 => cases v <;> rfl
theorem xv_xif {t : M Bool} {a b : MX} {Q : D → DS → Prop} {E : Xc → DS → Prop} : EvX (xIf t a b) s Q E = Ev t s fun v s1 => Br v (EvX a s1 Q E) (EvX b s1 Q E) := by with_unfolding_all exact xv_xif_0
theorem run_setX_0 {i : Nat} {m : MX} : Run0 (sSetX i m) s Nx Rt Bk Ct Ex = EvX0 m s (fun d s' => Nx (s'.set i (some d))) Ex := by
  unfold Run0 sSetX EvX0
  cases m s <;> rfl
theorem run_setX {i : Nat} {m : MX} : Run (sSetX i m) s Nx Rt Bk Ct Ex = EvX m s (fun d s' => Nx (s'.set i (some d))) Ex := by with_unfolding_all exact run_setX_0
theorem run_dropX_0 {m : MX} : Run0 (sDropX m) s Nx Rt Bk Ct Ex = EvX0 m s (fun _ s' => Nx s') Ex := by
  unfold Run0 sDropX EvX0
  cases m s <;> rfl
theorem run_dropX {m : MX} : Run (sDropX m) s Nx Rt Bk Ct Ex = EvX m s (fun _ s' => Nx s') Ex := by with_unfolding_all exact run_dropX_0
theorem run_retX_0 {m : MX} : Run0 (sRetX m) s Nx Rt Bk Ct Ex = EvX0 m s (fun d s' => Rt d s') Ex := by
  unfold Run0 sRetX EvX0
  cases m s <;> rfl
theorem run_retX {m : MX} : Run (sRetX m) s Nx Rt Bk Ct Ex = EvX m s (fun d s' => Rt d s') Ex := by with_unfolding_all exact run_retX_0
theorem run_asgX_0 {m : MX} {g : MG} : Run0 (sAsgX m g) s Nx Rt Bk Ct Ex = EvX0 m s (fun d s' => So0 (g d s') fun s2 => Nx s2) Ex := by
  unfold Run0 sAsgX EvX0
  cases m s with
  | no => rfl
  | ex x s' => rfl
  | ok d s' =>
    dsimp only [So0]
    cases g d s' <;> rfl
theorem run_asgX {m : MX} {g : MG} : Run (sAsgX m g) s Nx Rt Bk Ct Ex = EvX m s (fun d s' => So (g d s') fun s2 => Nx s2) Ex := by with_unfolding_all exact run_asgX_0
theorem run_raise_0 {x : Str} : Run0 (sRaise x) s Nx Rt Bk Ct Ex = Ex ⟨x, []⟩ s := nr rfl
theorem run_raise {x : Str} : Run (sRaise x) s Nx Rt Bk Ct Ex = Ex ⟨x, []⟩ s := by with_unfolding_all exact run_raise_0
theorem run_raiseF_0 {x : Str} {fs : List Str} {a : M (List D)} : Run0 (sRaiseF x fs a) s Nx Rt Bk Ct Ex = Ev0 a s fun vs s' => vs.length = fs.length ∧ Ex ⟨x, (fs.zip vs).reverse⟩ s' := by
  unfold Run0 sRaiseF Ev0
  cases a s with
  | no => rfl
  | ok vs s' =>
    dsimp only
    by_cases h : vs.length = fs.length
    · rw [if_pos h]; simp [h]
    · rw [if_neg h]; simp [h]
theorem run_raiseF {x : Str} {fs : List Str} {a : M (List D)} : Run (sRaiseF x fs a) s Nx Rt Bk Ct Ex = Ev a s fun vs s' => vs.length = fs.length ∧ Ex ⟨x, (fs.zip vs).reverse⟩ s' := by with_unfolding_all exact run_raiseF_0
theorem run_tryAs_0 {i : Nat} {sub : Str → Option Bool} {b : MS} {su : Xc → MS} : Run0 (sTryAs i sub b su) s Nx Rt Bk Ct Ex = Run0 b s Nx Rt Bk Ct fun x s' => So0 (sub x.c) fun v => Br0 v (Run0 (su x) (s'.set i (some .none)) (fun s2 => Nx (s2.set i none)) Rt (fun s2 => Bk (s2.set i none)) (fun s2 => Ct (s2.set i none)) fun _ _ => False) (Ex x s') := by
  unfold Run0 sTryAs
  cases b s with
  | ex x s' =>
    dsimp only [So0]
    cases sub x.c with
    | none => rfl
    | some v =>
      cases v with
      | false => rfl
      | true =>
        dsimp only [Br0]
        cases su x (s'.set i (some .none)) <;> rfl
  | _ => rfl
theorem run_tryAs {i : Nat} {sub : Str → Option Bool} {b : MS} {su : Xc → MS} : Run (sTryAs i sub b su) s Nx Rt Bk Ct Ex = Run b s Nx Rt Bk Ct fun x s' => So (sub x.c) fun v => Br v (Run (su x) (s'.set i (some .none)) (fun s2 => Nx (s2.set i none)) Rt (fun s2 => Bk (s2.set i none)) (fun s2 => Ct (s2.set i none)) fun _ _ => False) (Ex x s') := by with_unfolding_all exact run_tryAs_0
theorem run_tryOnly_0 {sub : Str → Option Bool} {b sm : MS} : Run0 (sTryOnly sub b sm) s Nx Rt Bk Ct Ex = Run0 b s Nx Rt Bk Ct fun x s' => So0 (sub x.c) fun v => Br0 v (Run0 sm s' Nx Rt Bk Ct fun _ _ => False) (Ex x s') := by
  unfold Run0 sTryOnly
  cases b s with
  | ex x s' =>
    dsimp only [So0]
    cases sub x.c with
    | none => rfl
    | some v =>
      cases v with
      | false => rfl
      | true =>
        dsimp only [Br0]
        cases sm s' <;> rfl
  | _ => rfl
theorem run_tryOnly {sub : Str → Option Bool} {b sm : MS} : Run (sTryOnly sub b sm) s Nx Rt Bk Ct Ex = Run b s Nx Rt Bk Ct fun x s' => So (sub x.c) fun v => Br v (Run sm s' Nx Rt Bk Ct fun _ _ => False) (Ex x s') := by with_unfolding_all exact run_tryOnly_0
theorem ev_here_0 {α : Type} {i : Nat} {o : Option α} {Q : α → DS → Prop} : Ev0 (hereM i o) s Q = So0 (look s i) fun _ => So0 o fun v => Q v s := by
  unfold Ev0 hereM look
  cases s[i]? with
  | none => rfl
  | some u =>
    cases u with
    | none => rfl
    | some d => dsimp only [So0, opt]; cases o <;> rfl
theorem ev_here {α : Type} {i : Nat} {o : Option α} {Q : α → DS → Prop} : Ev (hereM i o) s Q = So (look s i) fun _ => So o fun v => Q v s := by with_unfolding_all exact ev_here_0
theorem ev_zip_0 {ml : M (List D)} {Q : List D → DS → Prop} : Ev0 (mZip ml) s Q = Ev0 ml s fun es s' => So0 ((twoL es).map fun p => zipD p.1 p.2) fun zs => Q zs s' := by
  unfold mZip; rw [ev_bnd_0]; exact ev_ext_0 fun es s' => ev_opt_0
theorem ev_zip {ml : M (List D)} {Q : List D → DS → Prop} : Ev (mZip ml) s Q = Ev ml s fun es s' => So ((twoL es).map fun p => zipD p.1 p.2) fun zs => Q zs s' := by with_unfolding_all exact ev_zip_0
theorem so_two {xs ys : List D} {Q : List D → Prop} : So ((twoL [.list xs, .list ys]).map fun p => zipD p.1 p.2) Q = Q (zipD xs ys) := by with_unfolding_all rfl
theorem ev_zip1_0 {ml : M (List D)} {Q : List D → DS → Prop} : Ev0 (mZip1 ml) s Q = Ev0 ml s fun es s' => So0 ((twoLe es).map fun p => zipD p.1 p.2) fun zs => Q zs s' := by
  unfold mZip1; rw [ev_bnd_0]; exact ev_ext_0 fun es s' => ev_opt_0
theorem ev_zip1 {ml : M (List D)} {Q : List D → DS → Prop} : Ev (mZip1 ml) s Q = Ev ml s fun es s' => So ((twoLe es).map fun p => zipD p.1 p.2) fun zs => Q zs s' := by with_unfolding_all exact ev_zip1_0
theorem ev_join_0 {sep : Str} {m : M D} {Q : D → DS → Prop} : Ev0 (mJoin sep m) s Q = Ev0 m s fun d s' => So0 (joinD sep d) fun r => Q r s' := by
  unfold mJoin; rw [ev_bnd_0]; exact ev_ext_0 fun es s' => ev_opt_0
theorem ev_join {sep : Str} {m : M D} {Q : D → DS → Prop} : Ev (mJoin sep m) s Q = Ev m s fun d s' => So (joinD sep d) fun r => Q r s' := by with_unfolding_all exact ev_join_0
end
end Z
set_option Elab.async false
set_option linter.all false
set_option maxRecDepth 100000
set_option maxHeartbeats 1000000
namespace Z
open PySem L2 PyProof.Rows
/-! ### defs that may raise; what is told of exceptions' classes -/
theorem ox_none {c : Ctx} {O : List Kd} (h : c.Ox = none) : ∀ o, c.Ox = some o → O = o := fun o e => by rw [h] at e; cases e
theorem ox_some {c : Ctx} {O : List Kd} (h : c.Ox = some O) : ∀ o, c.Ox = some o → O = o := fun o e => by rw [h] at e; cases e; rfl
def FkE (P : Program) (w : World) (K : Fg) (mg : Str → Option Value) (base : Heap) (x : Str) (k : Nat) (ps : List Str) (sp : Sp) : Prop :=
  ∃ (f : Addr) (fd : FuncData), FnOk P w K mg base (L2N.CX P w) k f fd ps sp ∧ mg x = some (.ref f) ∧ PySem.W.keepIn K (.ref f) = true ∧ Binds K fd ps []
def FkEM (P : Program) (w : World) (K : Fg) (mg : Str → Option Value) (base : Heap) (C : Addr) (m : Str) (k : Nat) (ps : List Str) (sp : Sp) : Prop :=
  ∃ (f : Addr) (fd : FuncData), FnOk P w K mg base (L2N.CX P w) k f fd ps sp ∧ Meth K C m f ∧ Binds K fd ps []
def FkN (P : Program) (w : World) (K : Fg) (mg : Str → Option Value) (base : Heap) (x z : Str) (k : Nat) (sp : ZH.SpN) : Prop :=
  ∃ (f : Addr) (fd : FuncData), ZH.FnN P w K mg base k f fd z sp ∧ mg x = some (.ref f) ∧ PySem.W.keepIn K (.ref f) = true ∧ Binds K fd [z] []
/-- an own exception class without an own __init__ -/
structure ExC (K : Fg) (mg : Str → Option Value) (x : Str) (C : Addr) : Prop where
  g : mg x = some (.ref C)
  q : PySem.W.excIn K C He.veBase "ValueError.__new__" = true
  k : PySem.W.keepIn K (.ref C) = true
  b : PySem.W.subIn K (.ref C) (.type "BaseException") = some true
  t : PySem.W.typeIn K (.ref C) = some (.type "type")
/-- one with an own __init__ -/
structure ExI (P : Program) (w : World) (K : Fg) (mg : Str → Option Value) (base : Heap) (x : Str) (C fI : Addr) (fd : FuncData) (ps : List Str) (sp : Sp) : Prop where
  g : mg x = some (.ref C)
  T : OexC K C
  i : PySem.W.findIn K (.ref C) "__init__" = some (some (.ref fI))
  ty : PySem.W.typeIn K (.ref fI) = some (.type "function")
  F : FnOk P w K mg base CX0 1 fI fd ps sp
  b : Binds K fd ps []
theorem fn_okE {P : Program} {w : World} {K : Fg} {mg : Str → Option Value} {base : Heap} {x y : Str} {st : Stmt} {f : Addr} {fd : FuncData} {N xs : List Str} {ps : List Kd} {rk : Kd} {k : Nat} {b : MS} {O1 : List Kd} (F : FnQ K x y st f fd) (S : FnScope N xs (defScope st)) (hx : xs.length = ps.length) (hN : ps.length ≤ N.length)
    (h : ∀ (cdv : Value) (A : Around) (outer : List Env) (s : Shared) (H : Hp) (E : XK), Room k (A.deeper (PyProof.Rows.envOfC y (defScope st) s.heap.objs.size f cdv)) →
      L2N.Takes (cxOf (L2N.CX P w) P w K mg base N y (defScope st) f cdv A outer s H E) (fun cls d _ H => E cls d H) → PassesOwn (model P w) (cxOf (L2N.CX P w) P w K mg base N y (defScope st) f cdv A outer s H E).A (cxOf (L2N.CX P w) P w K mg base N y (defScope st) f cdv A outer s H E).env (cxOf (L2N.CX P w) P w K mg base N y (defScope st) f cdv A outer s H E).xe →
      ∃ t, PSs (cxOf (L2N.CX P w) P w K mg base N y (defScope st) f cdv A outer s H E) (defBody st) t ∧ ∀ c : Ctx, c.ps = (ps, []) → c.rk = rk → c.mg = mg → c.Ox = none → (c.W = fun cls d _ H => E cls d H) → DC K c [] (ps ++ List.replicate (N.length - ps.length) .sh) t b O1) :
    FnOk P w K mg base (L2N.CX P w) (k + 1) f fd xs (spD K mg (fnD N.length ps.length rk b) ps rk) := by
  refine F.ok S (fun vs H Q E q => (spD_len q).trans hx.symm) (fun cdv A outer s H vs Q E hr q => ?_)
  obtain ⟨t, p, d⟩ := h cdv A outer s H E hr (L2N.takes_of rfl rfl rfl rfl) (passes_of rfl)
  exact ⟨t, p, body_ok rfl E d q hN⟩
theorem pe_lczD {K : Fg} {O : List Kd} {k : Kd} {mt : M Bool} {me : M D} {X : Cx} {p : Addr × Obj} {elt t1 t2 e1 e2 : Expr} {ifs : List Expr} {scope : Scope} {own : List (Str × Nat)} {pos tpos zp cpos : Pos} {kk : Nat} {ta : TA} {gs : TGs} {tt : TT} {te : TE} (_ : ∀ c : Ctx, DT K c O tt mt) (_ : ∀ c : Ctx, DO K c O k te me) (hot : L2H.Hot1 X.A p) (hpn : p ∈ X.pn) (hN : X.N.Nodup) (hgz : Gl X "zip") (hmz : X.mg "zip" = none) (ha : PA X [e1, e2] ta) (ok : BlkOk X.N X.env.scope scope own)
    (hg : ∀ (s : Shared) (H : Hp) (C : Addr) (cl : List (Str × Addr)) (fp : List Addr), PGs (X.blk s H scope (compEnvC scope cl C X.env) fp) [t1, t2] gs) (hst : ∀ env : Env, (assignEach [t1, t2] env).findIdx? (·.1) = none) (hln : ∀ env : Env, (assignEach [t1, t2] env).length = 2)
    (ht : ∀ (s : Shared) (H : Hp) (C : Addr) (cl : List (Str × Addr)) (fp : List Addr), PTs (X.blk s H scope (compEnvC scope cl C X.env) fp) ifs tt) (he : ∀ (s : Shared) (H : Hp) (C : Addr) (cl : List (Str × Addr)) (fp : List Addr), PE (X.blk s H scope (compEnvC scope cl C X.env) fp) elt te)
    (hs : ∀ x, foldedSetIterable (.Call (.Name "zip" zp) [e1, e2] [] cpos) X.env x = pure x := by intro _; rfl)
    (hs1 : starEach [e1, e2] X.env = (false, eval e1 X.env) :: starEach [e2] X.env := by rfl) (hs2 : (backTo cpos (starEach [e2] X.env)).any (·.1) = false := by rfl) :
    PE X (.ListComp elt [⟨.Tuple [t1, t2] kk tpos, .Call (.Name "zip" zp) [e1, e2] [] cpos, ifs, 0⟩] scope pos) (tLc (ZH.iZip1 X.K ta) (gTup X.K 2 gs) tt te (own.map (·.2))) := ZH.pe_lcz hot hpn hN hgz hmz ha ok hg hst hln ht he hs hs1 hs2
theorem call_isK {K : Fg} {X : Cx} {a : Addr} {oe : Obj} {cls : Value} {dd : Option Addr} (hp : (a, oe) ∈ X.pn) (hz : Zc cls dd oe) (hf : ∃ vs, oe.data = .fields vs) (hK : X.K = K := by rfl) : CallR X (.builtin "isinstance") (ZH.rIsX K a cls dd) := by
  subst hK; exact ZH.call_isX hp hz hf
def tTryAs (K : Fg) (cv : Value) (i : Nat) (tb : WX → TS) (ts : Addr → Value → Option Addr → TS) (Wout : WX) : TS := fun D σ H => tb (wAs K cv i ts Wout D) D σ H
def tTryOnly (K : Fg) (cv : Value) (tb : WX → TS) (ts : Addr → Value → Option Addr → TS) (Wout : WX) : TS := fun D σ H => tb (wOnly K cv ts Wout D) D σ H
section
variable {X : Cx} {x n : Str} {cv : Value} {i : Nat} {body suite : List Stmt} {b₀ : Stmt} {np pos pos' : Pos} {tb : WX → TS} {ts : Addr → Value → Option Addr → TS} {Wout : WX}
theorem ps_tryAsD (hs : X.stack = X.env :: X.outer) (hf : X.env.frame = some X.env.locals) (hN : X.N.Nodup) (hi : X.N[i]? = some n) (hln : X.env.kindOf n = some .local) (hc : Names X x cv) (tk : L2N.Takes X Wout)
    (hb : ∀ (W : WX) (pn : List (Addr × Obj)) (xe : Value → Shared → Prop), L2N.Takes (X.tr pn xe) W → PassesOwn (model X.prog X.w) X.A X.env xe → PSs (X.tr pn xe) body (tb W))
    (hsu : ∀ (a : Addr) (oe : Obj) (cls : Value) (d : Option Addr) (pn : List (Addr × Obj)), L2N.Zn cls d oe → (∃ vs, oe.data = .fields vs) → PSs (X.suite a ((a, oe) :: pn)) (b₀ :: suite) (ts a cls d)) :
    PS X (.Try body [.ExceptHandler (some (.Name x np)) (some n) (b₀ :: suite) pos'] [] [] pos) (tTryAs X.K cv i tb ts Wout) := L2N.ps_try_as hs hf hN hi hln hc tk hb hsu
theorem ps_tryOnlyD (hs : X.stack = X.env :: X.outer) (hf : X.env.frame = some X.env.locals) (hc : Names X x cv) (tk : L2N.Takes X Wout)
    (hb : ∀ (W : WX) (pn : List (Addr × Obj)) (xe : Value → Shared → Prop), L2N.Takes (X.tr pn xe) W → PassesOwn (model X.prog X.w) X.A X.env xe → PSs (X.tr pn xe) body (tb W))
    (hsu : ∀ (a : Addr) (oe : Obj) (cls : Value) (d : Option Addr) (pn : List (Addr × Obj)), L2N.Zn cls d oe → (∃ vs, oe.data = .fields vs) → PSs (X.suite a ((a, oe) :: pn)) (b₀ :: suite) (ts a cls d)) :
    PS X (.Try body [.ExceptHandler (some (.Name x np)) none (b₀ :: suite) pos'] [] [] pos) (tTryOnly X.K cv tb ts Wout) := L2N.ps_try_many hs hf tk hb (.cons hc hsu .nil)
end
section
variable {K : Fg} {c : Ctx} {Ob O O1 : List Kd} {cv : Value} {sub : Str → Option Bool} {tb : WX → TS} {ts : Addr → Value → Option Addr → TS} {Wout : WX} {b : MS} {su : Xc → MS} {sm : MS}
theorem c_tryAsD (i : Nat) (hi : i < O.length) (hp : O[i]? = some .sh) (hp1 : O1[i]? = some .sh) (hpb : Ob = [] ∨ Ob[i]? = some .sh) (hsub : ∀ n v, sub n = some v → ∀ cls, c.mg n = some cls → PySem.W.exmOne K cls cv = some v) (hWo : (∀ n, sub n ≠ some false) ∨ (c.W = Wout ∧ ∀ o, c.Ox = some o → O = o))
    (hb : ∀ c' : Ctx, c'.ps = c.ps → c'.rk = c.rk → c'.mg = c.mg → c'.Ox = some O → DC K c' Ob O (tb c'.W) b O1)
    (hs : ∀ (c' : Ctx) (a : Addr) (cls : Value) (d : Option Addr) (x : Xc), c'.ps = c.ps → c'.rk = c.rk → c'.mg = c.mg → sub x.c = some true → ExOk K c'.mg c'.F0 x cls d → DC K c' (Ob.set i (.xr a)) (O.set i (.xr a)) (ts a cls d) (su x) (O1.set i (.xr a))) :
    DC K c Ob O (tTryAs K cv i tb ts Wout) (sTryAs i sub b su) O1 := c_tryAs i hi hp hp1 hpb hsub hWo hb hs
theorem c_tryOnlyD (hsub : ∀ n v, sub n = some v → ∀ cls, c.mg n = some cls → PySem.W.exmOne K cls cv = some v) (hWo : (∀ n, sub n ≠ some false) ∨ (c.W = Wout ∧ ∀ o, c.Ox = some o → O = o))
    (hb : ∀ c' : Ctx, c'.ps = c.ps → c'.rk = c.rk → c'.mg = c.mg → c'.Ox = some O → DC K c' Ob O (tb c'.W) b O1)
    (hs : ∀ (c' : Ctx) (a : Addr) (cls : Value) (d : Option Addr), c'.ps = c.ps → c'.rk = c.rk → c'.mg = c.mg → DC K c' Ob O (ts a cls d) sm O1) :
    DC K c Ob O (tTryOnly K cv tb ts Wout) (sTryOnly sub b sm) O1 := c_tryOnly hsub hWo hb hs
end
/-- a row of a table of classes -/
theorem tbl_row {α : Type} {P : Str → α → Prop} {n0 : Str} {b0 : α} {l : List (Str × α)} (h0 : P n0 b0) (hr : ∀ n b, l.lookup n = some b → P n b) : ∀ n b, List.lookup n ((n0, b0) :: l) = some b → P n b := fun n b e => by
  rw [List.lookup_cons] at e
  split at e
  · rename_i z
    cases e
    rw [eq_of_beq z]
    exact h0
  · exact hr n b e
theorem tbl_nil {α : Type} {P : Str → α → Prop} : ∀ n b, List.lookup n ([] : List (Str × α)) = some b → P n b := fun n b e => by cases e
theorem tbl_yes {l : List (Str × Bool)} (h : l.all (·.2) = true) : ∀ n, List.lookup n l ≠ some false := fun n e => by
  induction l with
  | nil => cases e
  | cons p l ih =>
    obtain ⟨m, b⟩ := p
    simp only [List.all_cons, Bool.and_eq_true] at h
    rw [List.lookup_cons] at e
    split at e
    · cases e; exact absurd h.1 (by decide)
    · exact ih h.2 e
section
variable {c : Ctx} {K : Fg} {mg : Str → Option Value}
theorem gx_c {x : Str} {C : Addr} (h : c.mg = mg) (g : mg x = some (.ref C)) : c.mg x = some (.ref C) := by rw [h]; exact g
theorem tb_c {tbl : Str → Option Bool} {cv : Value} (h : c.mg = mg) (g : ∀ n b, tbl n = some b → ∃ D, mg n = some (.ref D) ∧ ZH.ExT K D ∧ PySem.W.kitOne K (.ref D) cv = some b) : ∀ n b, tbl n = some b → ∃ D, c.mg n = some (.ref D) ∧ ZH.ExT K D ∧ PySem.W.kitOne K (.ref D) cv = some b := by rw [h]; exact g
theorem sb_c {tbl : Str → Option Bool} {cv : Value} (h : c.mg = mg) (g : ∀ n v, tbl n = some v → ∀ cls, mg n = some cls → PySem.W.exmOne K cls cv = some v) : ∀ n v, tbl n = some v → ∀ cls, c.mg n = some cls → PySem.W.exmOne K cls cv = some v := by rw [h]; exact g
end
theorem sub_row {K : Fg} {mg : Str → Option Value} {n0 : Str} {D : Addr} {cv : Value} {b : Bool} (g : mg n0 = some (.ref D)) (e : PySem.W.exmOne K (.ref D) cv = some b) : ∀ cls, mg n0 = some cls → PySem.W.exmOne K cls cv = some b := fun cls z => by
  rw [g] at z; cases z; exact e
theorem bt_ve : bootBuiltins "ValueError" = some (.type "ValueError") := PyProof.Rows.Boot.«ValueError»
end Z
set_option Elab.async false
set_option linter.all false
set_option maxRecDepth 100000
set_option maxHeartbeats 1000000
namespace Z
open PySem L2
section
variable {K : Fg} {c : Ctx} {O : List Kd}
theorem o_ifE {k : Kd} {tt : TT} {m1 : M Bool} {ta tb : TE} {ma mb : M D} (h0 : DT K c O tt m1) (h1 : DO K c O k ta ma) (h2 : DO K c O k tb mb) : DO K c O k (tIf tt ta tb) (mIf m1 ma mb) := ⟨fun {F H σ fps ds ds' b} r e Q q => by
  obtain ⟨d, s1, e1, e⟩ := bnd_ok e
  refine h0.run r e1 _ fun F1 H1 fps1 s r1 => ?_
  cases d with
  | true => exact iteT (h1.run r1 e _ fun F2 H2 fps2 v fpv s' r2 => q F2 H2 fps2 v fpv (s.trans s') r2)
  | false => exact iteF (h2.run r1 e _ fun F2 H2 fps2 v fpv s' r2 => q F2 H2 fps2 v fpv (s.trans s') r2)⟩
end
section
variable {K : Fg} {c : Ctx} {O : List Kd} {vs : List Nat}
/-- a comprehension whose iterable has been told -/
theorem lc_at {k : Kd} {J : It} {g : TG} {mg : MG} {tt : TT} {mt : M Bool} {te : TE} {me : M D} {F1 H1 H : Hp} {σ : St} {fps1 : Nat → List Addr} {s1 s2 : DS} {xs ys : List D} {Q : VK} (r1 : Rel K c O F1 H1 σ fps1 s1) (wk : Walks K F1 J xs)
    (hg : ∀ c' : Ctx, DV K c' O vs g mg) (ht : ∀ c' : Ctx, DT K c' O tt mt) (he : ∀ c' : Ctx, DO K c' O k te me) (hv : ∀ v ∈ vs, O[v]? = some .sh)
    (e2 : lcl mg mt me vs xs (wipeD s1 vs) = .ok ys s2) (hf : fits ys.length = true)
    (q : ∀ F' H' fps' v fpv, Same F1 F' → Rel K c O F' H' σ fps' (back s1 s2 vs) → Ow K F' H' (.ls k) v (.list ys) fpv → (∀ q ∈ fpv, F' q = none ∧ H' q ≠ none ∧ c.H0 q = none ∧ ∀ i, q ∉ fps' i) → fpv.Nodup → Q v H') :
    tLc (fun _ _ R => R J H1) g tt te vs σ H Q := by
  have hfit := fits_of hf
  intro p hp
  obtain ⟨pF, p0, pq⟩ := r1.fresh hp
  have r1' := (r1.allocO hp (.lst [])).wiped hv
  refine ⟨fun i m Hc => m + i = xs.length ∧ ∃ Fc fpc dc acc yc fs rest, Same F1 Fc ∧ Rel K c O Fc Hc (wipe σ vs) fpc dc ∧ Acc K c k Fc Hc fpc p acc yc fs ∧ lcl mg mt me vs (xs.drop i) dc = .ok rest s2 ∧ yc ++ rest = ys,
    ⟨xs.length, by omega, F1, fps1, _, [], [], [], ys, Same.refl _, r1', ⟨upd_same, fun q hq => ?_, .nil, by simp⟩, by rw [List.drop_zero]; exact e2, by simp⟩, ?_⟩
  · have : q = p := by simpa using hq
    subst this
    exact ⟨pF, by rw [upd_same]; simp, p0, pq⟩
  rintro i m Hc ⟨hm, Fc, fpc, dc, acc, yc, fs, rest, sc, rc, ac, el, ey⟩
  obtain ⟨w1, w2⟩ := wk Fc Hc i sc rc.sub
  cases hx : xs[i]? with
  | none =>
    have hl : xs.length ≤ i := List.getElem?_eq_none_iff.mp hx
    refine .inl ⟨w2 (by omega), ?_⟩
    rw [List.drop_of_length_le hl] at el
    unfold lcl at el
    cases el
    rw [List.append_nil] at ey
    subst ey
    refine q Fc Hc _ (.ref p) (p :: fs.flatten) (sc) (r1.backed rc (wipe_wipe _ _) sc hv) ⟨p, acc, yc, fs, rfl, rfl, ac.at_, rfl, ac.al⟩ (fun q' hq' => ?_) ac.nd
    obtain ⟨a1, a2, a3, a4⟩ := ac.off q' hq'
    refine ⟨a1, a2, a3, fun j => ?_⟩
    by_cases z : j ∈ vs
    · simp only [if_pos z]; simp
    · simp only [if_neg z]; exact a4 j
  | some d0 =>
    obtain ⟨go, yl⟩ := w1 d0 hx
    have hlt : i < xs.length := (List.getElem?_eq_some_iff.mp hx).1
    have hd : xs.drop i = d0 :: xs.drop (i + 1) := by
      rw [List.drop_eq_getElem_cons hlt]
      congr 1
      rw [List.getElem?_eq_getElem hlt] at hx
      exact Option.some.inj hx
    rw [hd] at el
    unfold lcl at el
    refine .inr ⟨go, fun Hn => ∃ Fc fpc dc acc yc fs rest, Same F1 Fc ∧ Rel K c O Fc Hn (wipe σ vs) fpc dc ∧ Acc K c k Fc Hn fpc p acc yc fs ∧ lcl mg mt me vs (xs.drop (i + 1)) dc = .ok rest s2 ∧ yc ++ rest = ys, fun Hn h => ⟨m - 1, by omega, by omega, h⟩, fun x H3 hy => ?_⟩
    have rf := rc.focus
    obtain ⟨F3, gr, dp⟩ := yl x H3 hy
    obtain ⟨r3, s3⟩ := gr.rel rf
    split at el
    · cases el
    · rename_i s4 hs4
      refine (hg _).run r3 dp hs4 _ fun σ4 fps4 r4 e4 => ⟨by rw [e4, wipe_wipe], ?_⟩
      have e4' : wipe σ4 vs = wipe σ vs := by rw [e4, wipe_wipe]
      cases e5 : mt s4 with
      | no => rw [e5] at el; cases el
      | ok b s5 =>
        rw [e5] at el
        refine (ht _).run r4 e5 _ fun F5 H5 fps5 sF5 r5 => ?_
        cases b with
        | false =>
          refine iteF ?_
          have hs : Same Fc F5 := s3.trans sF5
          have r6 := (rc.unfocus' r5).wiped hv
          rw [e4'] at r6
          exact ⟨F5, fps5, _, acc, yc, fs, rest, sc.trans hs, r6, ac.step hs r5, el, ey⟩
        | true =>
          refine iteT ?_
          dsimp only at el
          cases e6 : me s5 with
          | no => rw [e6] at el; cases el
          | ok y s6 =>
            rw [e6] at el
            dsimp only at el
            cases e7 : lcl mg mt me vs (xs.drop (i + 1)) (wipeD s6 vs) with
            | no => rw [e7] at el; cases el
            | ok rs s7 =>
              rw [e7] at el
              cases el
              refine (he _).run r5 e6 _ fun F6 H6 fps6 u fpu sF6 r6 ow hfu ndu => ?_
              have hs : Same Fc F6 := (s3.trans sF5).trans sF6
              have a6 := ac.step hs r6
              have r7 := rc.unfocus' r6
              have hl : acc.length = yc.length := ac.al.len.1
              refine ⟨acc, a6.at_, ?_, ?_⟩
              · rw [hl]
                have : yc.length + (y :: rs).length = ys.length := by rw [← ey, List.length_append]
                rw [List.length_cons] at this
                omega
              · obtain ⟨pF6, pH6, p06, pq6⟩ := a6.off p List.mem_cons_self
                have r8 := (r7.updO pF6 p06 pq6 (.lst (acc ++ [u]))).wiped hv
                rw [e4'] at r8
                have hpu : p ∉ fpu := fun z => by
                  have := (hfu p z).2.2.1
                  have hh : (c.from O Fc Hc fpc).H0 p = Hc p := from_some fun ⟨i, hi, _⟩ => (ac.off p List.mem_cons_self).2.2.2 i hi
                  rw [hh] at this
                  exact (ac.off p List.mem_cons_self).2.1 this
                have hfr : ∀ q ∈ fs.flatten, q ∉ fpu := fun q hq z => by
                  have := (hfu q z).2.2.1
                  have hh : (c.from O Fc Hc fpc).H0 q = Hc q := from_some fun ⟨i, hi, _⟩ => (ac.off q (List.mem_cons_of_mem _ hq)).2.2.2 i hi
                  rw [hh] at this
                  exact (ac.off q (List.mem_cons_of_mem _ hq)).2.1 this
                have hpf : p ∉ fs.flatten := (List.nodup_cons.mp ac.nd).1
                refine ⟨F6, fps6, _, acc ++ [u], yc ++ [y], fs ++ [fpu], rs, sc.trans hs, r8, ⟨upd_same, fun q hq => ?_, ?_, ?_⟩, e7, by rw [List.append_assoc]; exact ey⟩
                · rcases List.mem_cons.mp hq with z | hq
                  · subst z
                    exact ⟨pF6, by rw [upd_same]; simp, p06, pq6⟩
                  · rw [List.flatten_append, List.mem_append] at hq
                    rcases hq with hq | hq
                    · obtain ⟨b1, b2, b3, b4⟩ := a6.off q (List.mem_cons_of_mem _ hq)
                      have hne : q ≠ p := fun z => hpf (z ▸ hq)
                      exact ⟨b1, by rw [upd_ne hne]; exact b2, b3, b4⟩
                    · have hq : q ∈ fpu := by simpa using hq
                      obtain ⟨b1, b2, b3, b4⟩ := hfu q hq
                      have hne : q ≠ p := fun z => hpu (z ▸ hq)
                      refine ⟨b1, by rw [upd_ne hne]; exact b2, ?_, b4⟩
                      rcases from_none b3 with ⟨j, hj, hpm⟩ | h
                      · rcases (rc.off j q hj).2.2 with h | ⟨_, h⟩
                        · exact h
                        · rw [hpm] at h; cases h
                      · exact rc.live q h
                · refine All3.snoc ?_ (a6.al.imp fun x1 y1 z1 hz1 ow1 => ow_mono (Same.refl _) ow1 fun q hq => upd_ne fun z => hpf (z ▸ List.mem_flatten.mpr ⟨z1, hz1, hq⟩))
                  exact ow_mono (Same.refl _) ow fun q hq => upd_ne fun z => hpu (z ▸ hq)
                · rw [List.flatten_append]
                  have e9 : [fpu].flatten = fpu := by simp
                  rw [e9]
                  refine List.nodup_cons.mpr ⟨fun z => ?_, ?_⟩
                  · rcases List.mem_append.mp z with z | z
                    · exact hpf z
                    · exact hpu z
                  · exact List.nodup_append.mpr ⟨(List.nodup_cons.mp ac.nd).2, ndu, fun a ha b hb z => hfr a ha (z ▸ hb)⟩
def xLc (mx : MX) (g : MG) (t : M Bool) (e : M D) (vs : List Nat) : MX := fun s => match mx s with
  | .no => .no
  | .ex x s1 => .ex x s1
  | .ok (.list xs) s1 => match lcl g t e vs xs (wipeD s1 vs) with
    | .no => .no
    | .ok ys s2 => if fits ys.length then .ok (.list ys) (back s1 s2 vs) else .no
  | .ok _ _ => .no
theorem x_lc {k : Kd} {ti : TE} {mx : MX} {g : TG} {mg : MG} {tt : TT} {mt : M Bool} {te : TE} {me : M D} (hi : DX K c O .sh ti mx) (hg : ∀ c' : Ctx, DV K c' O vs g mg) (ht : ∀ c' : Ctx, DT K c' O tt mt) (he : ∀ c' : Ctx, DO K c' O k te me)
    (hv : ∀ v ∈ vs, O[v]? = some .sh) : DX K c O (.ls k) (tLc (iSeq K ti) g tt te vs) (xLc mx mg mt me vs) := ⟨fun {F H σ fps ds} r Q q => by
  unfold xLc at q
  refine .inl (hi.run r _ ?_)
  cases e : mx ds with
  | no => rw [e] at q; exact q.elim
  | ex x s1 => rw [e] at q; exact q
  | ok d s1 =>
    rw [e] at q
    cases d with
    | list xs =>
      intro F1 H1 fps1 v fpv sF r1 ow _ _
      cases e2 : lcl mg mt me vs xs (wipeD s1 vs) with
      | no => dsimp only at q; rw [e2] at q; exact q.elim
      | ok ys s2 =>
        dsimp only at q
        rw [e2] at q
        dsimp only at q
        split at q
        · rename_i hf
          cases ow.2 with
          | lst hq al =>
            refine ⟨_, rfl, ⟨_, sqL_mono r1.sub hq⟩, ?_⟩
            exact lc_at (H := H1) r1 (walk_l hq al) hg ht he hv e2 hf fun F' H' fps' v fpv s' => q F' H' fps' v fpv (sF.trans s')
        · exact q.elim
    | _ => exact q.elim⟩
theorem xv_xlc_0 {s : DS} {mx : MX} {g : MG} {t : M Bool} {e : M D} {Q : D → DS → Prop} {E : Xc → DS → Prop} : EvX0 (xLc mx g t e vs) s Q E = EvX0 mx s (fun d s1 => So0 (lof d) fun xs => Lc0 g t e vs xs (wipeD s1 vs) fun ys s2 => fits ys.length = true ∧ Q (.list ys) (back s1 s2 vs)) E := by
  unfold EvX0 xLc Lc0
  cases mx s with
  | no => rfl
  | ex x s1 => rfl
  | ok d s1 =>
    cases d <;> try rfl
    rename_i xs
    show (match (match lcl g t e vs xs (wipeD s1 vs) with | .no => RX.no | .ok ys s2 => if fits ys.length then .ok (.list ys) (back s1 s2 vs) else .no) with | .ok d s => Q d s | .ex x s => E x s | .no => False) = (match lcl g t e vs xs (wipeD s1 vs) with | .ok ys s2 => fits ys.length = true ∧ Q (.list ys) (back s1 s2 vs) | .no => False)
    cases lcl g t e vs xs (wipeD s1 vs) with
    | no => rfl
    | ok ys s2 =>
      dsimp only
      by_cases h : fits ys.length = true
      · rw [if_pos h]; simp [h]
      · rw [if_neg h]; simp [h]
theorem xv_xlc {s : DS} {mx : MX} {g : MG} {t : M Bool} {e : M D} {Q : D → DS → Prop} {E : Xc → DS → Prop} : EvX (xLc mx g t e vs) s Q E = EvX mx s (fun d s1 => So (lof d) fun xs => Lc xs (wipeD s1 vs) g t e vs fun ys s2 => fits ys.length = true ∧ Q (.list ys) (back s1 s2 vs)) E := by with_unfolding_all exact xv_xlc_0
end
end Z
set_option Elab.async false
set_option linter.all false
set_option maxRecDepth 100000
set_option maxHeartbeats 1000000
namespace Z
open PySem L2
/-! ### a slot that is held otherwise from here on, where its data lets it -/
def sWhen (i : Nat) (P : D → Bool) (b : MS) : MS := fun s => match s[i]? with
  | some (some d) => if P d then b s else .no
  | _ => .no
def yesD : D → Bool := fun _ => true
def notNon (d : D) : Bool := !nonB d
section
variable {K : Fg} {c : Ctx} {O : List Kd}
theorem c_when {Ob O' : List Kd} {t : TS} {b : MS} {P : D → Bool} {k' : Kd} (i : Nat) (hp : isPm O[i]? = false) (hi : i < O.length)
    (hw : ∀ (F H : Hp) (v : V) (d : D) (fp : List Addr), P d = true → Ow K F H (O.getD i .sh) v d fp → Ow K F H k' v d fp) (h : DC K c Ob (O.set i k') t b O') : DC K c Ob O t (sWhen i P b) O' := ⟨fun {F H σ fps ds} r E p => by
  unfold sWhen at p
  cases hd : ds[i]? with
  | none => rw [hd] at p; exact p.elim
  | some o =>
    cases o with
    | none => rw [hd] at p; exact p.elim
    | some d =>
      rw [hd] at p
      dsimp only at p
      by_cases hP : P d = true
      · rw [if_pos hP] at p
        refine h.run (F := F) (H := H) (σ := σ) (fps := fps) ?_ E p
        have hne : ∀ j k', c.pk j = some k' → j ≠ i := fun j k' hjk z => by
          subst z
          rw [(r.par j k' hjk).1] at hp
          exact absurd hp (by simp [isPm])
        refine ⟨r.sub, r.base, r.keep, r.live, r.new, fun j e hj => ?_, fun j q hq => ?_, r.nd, r.dj, fun j k' h => ?_, r.len⟩
        · obtain ⟨u, hu, w⟩ := r.slots j e hj
          refine ⟨u, hu, ?_⟩
          by_cases z : j = i
          · subst z
            rw [hd] at hj
            cases hj
            rw [List.getD_eq_getElem?_getD, List.getElem?_set_self hi]
            exact hw _ _ _ _ _ hP w
          · rw [getD_set_ne z]
            exact w
        · obtain ⟨a1, a2, a3⟩ := r.off j q hq
          refine ⟨a1, a2, ?_⟩
          by_cases z : j = i
          · subst z
            rcases a3 with a3 | ⟨_, a3⟩
            · exact .inl a3
            · rw [hp] at a3; cases a3
          · rw [List.getElem?_set_ne (Ne.symm z)]
            exact a3
        · have h' := hne j k' h
          obtain ⟨a, b⟩ := r.par j k' h
          exact ⟨by rw [List.getElem?_set_ne (Ne.symm h')]; exact a, b⟩
      · rw [if_neg hP] at p
        exact p.elim⟩
theorem c_toOp {Ob O' : List Kd} {t : TS} {b : MS} {k : Kd} (i : Nat) (hk : O.getD i .sh = k) (hp : isPm O[i]? = false) (hi : i < O.length) (h : DC K c Ob (O.set i (.op k)) t b O') : DC K c Ob O t (sWhen i yesD b) O' :=
  c_when i hp hi (fun F H v d fp _ w => by rw [hk] at w; exact .inr w) h
theorem c_noneOp {Ob O' : List Kd} {t : TS} {b : MS} {k : Kd} (i : Nat) (hk : O.getD i .sh = .sh) (hp : isPm O[i]? = false) (hi : i < O.length) (h : DC K c Ob (O.set i (.op k)) t b O') : DC K c Ob O t (sWhen i nonB b) O' :=
  c_when i hp hi (fun F H v d fp hP w => by
    rw [hk] at w
    obtain ⟨w1, w2⟩ : fp = [] ∧ Dp K F v d := w
    cases w2 with
    | non => exact .inl ⟨rfl, rfl, w1⟩
    | _ => cases hP) h
theorem c_opNone {Ob O' : List Kd} {t : TS} {b : MS} {k : Kd} (i : Nat) (hk : O.getD i .sh = .op (.ls k)) (hp : isPm O[i]? = false) (hi : i < O.length) (h : DC K c Ob (O.set i .sh) t b O') : DC K c Ob O t (sWhen i nonB b) O' :=
  c_when i hp hi (fun F H v d fp hP w => by
    rw [hk] at w
    rcases w with ⟨rfl, rfl, rfl⟩ | ⟨_, _, _, _, _, rfl, _⟩
    · exact ⟨rfl, .non⟩
    · cases hP) h
theorem c_opSome {Ob O' : List Kd} {t : TS} {b : MS} {k : Kd} (i : Nat) (hk : O.getD i .sh = .op k) (hp : isPm O[i]? = false) (hi : i < O.length) (h : DC K c Ob (O.set i k) t b O') : DC K c Ob O t (sWhen i notNon b) O' :=
  c_when i hp hi (fun F H v d fp hP w => by
    rw [hk] at w
    rcases w with ⟨rfl, rfl, rfl⟩ | w
    · cases hP
    · exact w) h
end
section
variable {s : DS} {Nx : DS → Prop} {Rt : D → DS → Prop} {Bk Ct : DS → Prop} {Ex : Xc → DS → Prop}
theorem run_when_0 {i : Nat} {P : D → Bool} {b : MS} : Run0 (sWhen i P b) s Nx Rt Bk Ct Ex = So0 (look s i) fun d => P d = true ∧ Run0 b s Nx Rt Bk Ct Ex := by
  unfold Run0 sWhen look
  cases s[i]? with
  | none => rfl
  | some o =>
    cases o with
    | none => rfl
    | some d =>
      dsimp only [So0]
      by_cases h : P d = true
      · rw [if_pos h]; simp [h]
      · rw [if_neg h]; simp [h]
theorem run_when {i : Nat} {P : D → Bool} {b : MS} : Run (sWhen i P b) s Nx Rt Bk Ct Ex = So (look s i) fun d => P d = true ∧ Run b s Nx Rt Bk Ct Ex := by with_unfolding_all exact run_when_0
end
theorem yesD_t {d : D} : (yesD d = true) = True := by unfold yesD; simp
theorem nonB_n : (nonB .none = true) = True := by simp [nonB]
theorem notNon_l {l : List D} : (notNon (.list l) = true) = True := by simp [notNon, nonB]
end Z
set_option Elab.async false
set_option linter.all false
set_option maxRecDepth 100000
set_option maxHeartbeats 1000000
namespace Z
open PySem L2
/-! ### for i in reversed(range(..)) -/
def rcD (lo c : Int) (n : Nat) : List D := (List.range n).map fun i => .int (lo + (i : Nat) * c)
theorem rcD_len {lo c : Int} {n : Nat} : (rcD lo c n).length = n := by unfold rcD; simp
theorem rcD_get {lo c : Int} {n i : Nat} {d : D} (h : (rcD lo c n)[i]? = some d) : i < n ∧ d = .int (lo + (i : Nat) * c) := by
  have hl : i < (rcD lo c n).length := (List.getElem?_eq_some_iff.mp h).1
  rw [rcD_len] at hl
  unfold rcD at h
  rw [List.getElem?_map, List.getElem?_range hl] at h
  cases h
  exact ⟨hl, rfl⟩
section
variable {K : Fg} {c : Ctx} {O : List Kd}
theorem walk_c {F : Hp} (lo c : Int) (n : Nat) : Walks K F (Itc lo c n) (rcD lo c n) := fun F1 H1 i s1 s2 => by
  refine ⟨fun d hd => ?_, fun hi => by rw [rcD_len] at hi; exact Nat.le_of_eq hi.symm⟩
  obtain ⟨hi, rfl⟩ := rcD_get hd
  refine ⟨hi, fun x H2 hy => ?_⟩
  obtain ⟨e, rfl⟩ := hy
  subst e
  exact ⟨F1, .refl, .int _⟩
def mRev (m : M (Int × Int)) : M (List D) := bnd m fun p => opt (if rngC p.1 p.2 then some (rcD (p.1 + (((p.2 - p.1).toNat : Nat) : Int) - 1) (-1) (p.2 - p.1).toNat) else none)
theorem i_rev {t : St → Hp → (Int → Int → Hp → Prop) → Prop} {m : M (Int × Int)} (h : DR K c O t m) : DI K c O (iRevR t) (mRev m) := ⟨fun {F H σ fps ds ds' xs} r e R q => by
  obtain ⟨p, s1, e1, g1⟩ := bnd_ok e
  obtain ⟨a, b⟩ := p
  obtain ⟨g2, z⟩ := opt_ok g1
  subst z
  refine h.run r e1 _ fun F1 H1 fps1 sF r1 => ?_
  dsimp only at g2
  split at g2
  · rename_i hc
    cases g2
    have hh := of_decide_eq_true hc
    exact ⟨hh.1, hh.2.1, hh.2.2.1, hh.2.2.2, q F1 H1 fps1 _ sF r1 (walk_c _ _ _)⟩
  · cases g2⟩
end
section
variable {s : DS}
theorem ev_rev_0 {m : M (Int × Int)} {Q : List D → DS → Prop} : Ev0 (mRev m) s Q = Ev0 m s fun p s' => rngC p.1 p.2 = true ∧ Q (rcD (p.1 + (((p.2 - p.1).toNat : Nat) : Int) - 1) (-1) (p.2 - p.1).toNat) s' := by
  unfold mRev; rw [ev_bnd_0]; refine ev_ext_0 fun p s' => ?_; rw [ev_opt_0, so_if_0]; rfl
theorem ev_rev {m : M (Int × Int)} {Q : List D → DS → Prop} : Ev (mRev m) s Q = Ev m s fun p s' => rngC p.1 p.2 = true ∧ Q (rcD (p.1 + (((p.2 - p.1).toNat : Nat) : Int) - 1) (-1) (p.2 - p.1).toNat) s' := by with_unfolding_all exact ev_rev_0
end
end Z
set_option Elab.async false
set_option linter.all false
set_option maxRecDepth 100000
set_option maxHeartbeats 1000000
namespace Z
open PySem L2
/-! ### loans of tuples with things of one's own, for plain results -/
def scD : D → Bool
  | .none => true
  | .bool _ => true
  | .int _ => true
  | .str _ => true
  | _ => false
def scL : List D → Bool
  | [] => true
  | x :: r => scD x && scL r
mutual
def frzy : Kd → Bool
  | .sh => true
  | .ls k => frzy k
  | .pm k => frzy k
  | .te => true
  | .tc k r => frzy k && frzt r
  | .op k => frzy k
  | _ => false
def frzt : Kd → Bool
  | .te => true
  | .tc k r => frzy k && frzt r
  | _ => false
end
section
variable {K : Fg} {F H : Hp} {fp : List Addr}
theorem dp_sc {F' : Hp} {v : V} {d : D} (h : Dp K F v d) (n : scD d = true) : Dp K F' v d := by
  cases h with
  | non => exact .non
  | bl b => exact .bl b
  | int i => exact .int i
  | str x => exact .str x
  | lst _ _ => cases n
  | tup _ _ => cases n
theorem dpa_sc {F' : Hp} : ∀ {vs : List V} {ds : List D}, DpAll K F vs ds → scL ds = true → DpAll K F' vs ds
  | _, _, .nil, _ => .nil
  | _, _, .cons h r, n => by
    rw [scL, Bool.and_eq_true] at n
    exact .cons (dp_sc h n.1) (dpa_sc r n.2)
theorem ow_frzS {G : Hp} (hs : Same F G) (hG : ∀ q ∈ fp, G q = H q) : ∀ {k : Kd}, (∀ {v : V} {d : D} {fp' : List Addr}, frzy k = true → Ow K F H k v d fp' → (∀ q ∈ fp', q ∈ fp) → Dp K G v d) ∧
    (∀ {xs : List V} {ds : List D} {fs : List (List Addr)}, frzt k = true → (Ow2 K F H k).t xs ds fs → (∀ q ∈ fs.flatten, q ∈ fp) → DpAll K G xs ds) := by
  intro k
  induction k with
  | sh => exact ⟨fun _ h _ => dp_mono hs h.2, fun h => by cases h⟩
  | ls k ih =>
    refine ⟨fun {v d fp'} hl h sub => ?_, fun h => by cases h⟩
    obtain ⟨p, xs, ds, fs, rfl, rfl, hp, rfl, al⟩ := h
    refine .lst (SqL.of (by rw [hG p (sub p List.mem_cons_self)]; exact hp)) ?_
    have al' : All3 (fun v d (f : List Addr) => Dp K G v d) xs ds fs := al.imp fun a b c hc o => ih.1 (by simpa [frzy] using hl) o fun q hq => sub q (List.mem_cons_of_mem _ (List.mem_flatten.mpr ⟨c, hc, hq⟩))
    clear al hp sub
    induction al' with
    | nil => exact .nil
    | cons h _ ih2 => exact .cons h ih2
  | pm k ih => exact ⟨fun {v d fp'} hl h sub => ih.1 (by simpa [frzy] using hl) h sub, fun h => by cases h⟩
  | dc => exact ⟨fun hl => by simp [frzy] at hl, fun h => by cases h⟩
  | oe _ => exact ⟨fun hl => by simp [frzy] at hl, fun h => by cases h⟩
  | of _ _ _ _ _ => exact ⟨fun hl => by simp [frzy] at hl, fun h => by cases h⟩
  | te =>
    refine ⟨fun {v d fp'} _ h sub => ?_, fun {xs ds fs} _ h _ => ?_⟩
    · obtain ⟨p, xs, ds, fs, rfl, rfl, hp, rfl, rfl, rfl, rfl⟩ := h
      exact .tup (SqT.of (by rw [hG p (sub p List.mem_cons_self)]; exact hp)) .nil
    · obtain ⟨rfl, rfl, rfl⟩ := h
      exact .nil
  | tc k r ihk ihr =>
    have key : ∀ {xs : List V} {ds : List D} {fs : List (List Addr)}, (frzy k && frzt r) = true → TcR (Ow2 K F H k).a (Ow2 K F H r).t xs ds fs → (∀ q ∈ fs.flatten, q ∈ fp) → DpAll K G xs ds := fun {xs ds fs} hl h sub => by
      rw [Bool.and_eq_true] at hl
      obtain ⟨x, d, f, xr, dr, fr, rfl, rfl, rfl, h1, h2⟩ := h
      exact .cons (ihk.1 hl.1 h1 fun q hq => sub q (by simp [hq])) (ihr.2 hl.2 h2 fun q hq => sub q (by rw [List.flatten_cons]; exact List.mem_append_right _ hq))
    refine ⟨fun {v d fp'} hl h sub => ?_, fun {xs ds fs} hl h sub => key (by simpa [frzt] using hl) h sub⟩
    obtain ⟨p, xs, ds, fs, rfl, rfl, hp, rfl, ht⟩ := h
    exact .tup (SqT.of (by rw [hG p (sub p List.mem_cons_self)]; exact hp)) (key (by simpa [frzy] using hl) ht fun q hq => sub q (List.mem_cons_of_mem _ hq))
  | op k ih =>
    refine ⟨fun {v d fp'} hl h sub => ?_, fun h => by cases h⟩
    rcases h with ⟨rfl, rfl, rfl⟩ | h
    · exact .non
    · exact ih.1 (by simpa [frzy] using hl) h sub
  | xr _ => exact ⟨fun hl => by simp [frzy] at hl, fun h => by cases h⟩
  | hx _ _ _ => exact ⟨fun hl => by simp [frzy] at hl, fun h => by cases h⟩
  | sd => exact ⟨fun hl => by simp [frzy] at hl, fun h => by cases h⟩
end
def scO : D → Bool
  | .list xs => scL xs
  | _ => false
def fzSk (js : List Nat) (s : DS) : Bool := js.all fun j => match s[j]? with
  | some (some d) => scO d
  | _ => true
def mFzS (i : Nat) (js : List Nat) (m : M D) : M D := fun s => match s[i]? with
  | some (some _) => match m s with
    | .ok d s' => if scD d && fzSk js s' then .ok d (mix s s' js) else .no
    | .no => .no
  | _ => .no
section
variable {K : Fg} {c : Ctx} {O : List Kd} {t : TE} {m : M D}
theorem d_fzS (i : Nat) (js : List Nat) (h : ∀ c', DE K c' (O.set i .sh) t m) (hk : frzy (O.getD i .sh) = true := by rfl) (hO : fzO O i js = true := by decide) (hi : i < O.length := by first | decide | exact of_decide_eq_true rfl) : DE K c O t (mFzS i js m) := ⟨fun {F H σ fps ds ds' d} r e Q q => by
  unfold mFzS at e
  unfold fzO at hO
  rw [Bool.and_eq_true, Bool.and_eq_true] at hO
  obtain ⟨⟨hO, hij⟩, hjl⟩ := hO
  have hij : i ∉ js := by simpa using hij
  have kO : ∀ j, j ≠ i → (j ∈ js ∧ lsish (O.getD j .sh) = true) ∨ (j ∉ js ∧ O.getD j .sh = .sh) := fun j hj => by
    by_cases hl : j < O.length
    · have := List.all_eq_true.mp hO j (by simpa using hl)
      simp only [Bool.or_eq_true, Bool.and_eq_true, beq_iff_eq, Bool.not_eq_true', List.contains_iff_mem, hj, false_or] at this
      rcases this with h | h
      · exact .inl h
      · refine .inr ⟨?_, h.2⟩
        have := h.1
        simpa using this
    · refine .inr ⟨fun z => hl ?_, ?_⟩
      · simpa using List.all_eq_true.mp hjl j z
      · rw [List.getD_eq_getElem?_getD, List.getElem?_eq_none (by omega)]; rfl
  split at e
  · rename_i di hdi
    cases em : m ds with
    | no => rw [em] at e; cases e
    | ok d1 s1 =>
      rw [em] at e
      dsimp only at e
      split at e
      · rename_i hn
        rw [Bool.and_eq_true] at hn
        cases e
        obtain ⟨hn, hz⟩ := hn
        obtain ⟨w, hw, owi⟩ := r.slots i di hdi
        have offi := fun q hq => r.off i q hq
        have hFi : ∀ q ∈ fps i, F q = none := fun q hq => (offi q hq).1
        have sF1 : Same F (frzF F H (fps i)) := same_frz hFi
        have e1 : ∀ q ∈ fps i, frzF F H (fps i) q = H q := fun q hq => if_pos hq
        have e2 : ∀ q, q ∉ fps i → frzF F H (fps i) q = F q := fun q hq => if_neg hq
        have hdis : ∀ j q, q ∈ asd fps i j → q ∉ fps i := fun j q hq hq' => by
          obtain ⟨z, hq⟩ := asd_sub hq
          exact r.dj j i z q hq hq'
        let c1 : Ctx := { (c.from O F H (asd fps i)) with F0 := frzF F H (fps i), pk := fun j => if j = i then none else c.pk j }
        have c1n : ∀ b, c1.H0 b = none → c.H0 b = none := fun b hb => by
          rcases from_none (c := c) (O := O) (F1 := F) (H1 := H) (fps1 := asd fps i) hb with ⟨j, hj, hp⟩ | hb
          · rcases (r.off j b (asd_sub hj).2).2.2 with h | ⟨_, h⟩
            · exact h
            · rw [hp] at h; cases h
          · exact r.live b hb
        have r1 : Rel K c1 (O.set i .sh) (frzF F H (fps i)) H σ (asd fps i) ds := by
          have ra : Rel K c O F H σ (asd fps i) (ds.set i none) := r.aside i
          have rf := ra.focus
          refine ⟨fun b u e => ?_, Same.refl _, rf.keep, rf.live, fun b u e => .inl e, fun j d0 hj => ?_, fun j q hq => ?_, rf.nd, rf.dj, fun j k hj => ?_, r.len⟩
          · by_cases z : b ∈ fps i
            · rw [e1 b z] at e; exact e
            · rw [e2 b z] at e; exact r.sub b u e
          · by_cases z : j = i
            · subst z
              rw [hdi] at hj
              cases hj
              refine ⟨w, hw, ?_⟩
              rw [getD_set_eq hi]
              exact ⟨if_pos rfl, (ow_frzS sF1 e1).1 hk owi fun q hq => hq⟩
            · obtain ⟨u, hu, ow⟩ := r.slots j d0 hj
              refine ⟨u, hu, ?_⟩
              rw [getD_set_ne z]
              have : asd fps i j = fps j := if_neg z
              rw [this]
              exact ow_mono sF1 ow fun _ _ => rfl
          · obtain ⟨a, b, cc⟩ := rf.off j q hq
            refine ⟨by rw [e2 q (hdis j q hq)]; exact a, b, ?_⟩
            have z := (asd_sub hq).1
            rw [List.getElem?_set_ne (Ne.symm z)]
            exact cc
          · have hj : (if j = i then none else c.pk j) = some k := hj
            by_cases z : j = i
            · rw [if_pos z] at hj; cases hj
            · rw [if_neg z] at hj
              obtain ⟨a, b⟩ := r.par j k hj
              exact ⟨by rw [List.getElem?_set_ne (Ne.symm z)]; exact a, b⟩
        refine (h c1).run r1 em _ fun F2 H2 fps2 v sF2 r2 dp => ?_
        have hn1 : ∀ q ∈ fps i, ∀ j, q ∉ asd fps i j := fun q hq j hj => hdis j q hj hq
        have H0i : ∀ q ∈ fps i, c1.H0 q = H q := fun q hq => from_some (c := c) (F1 := F) fun ⟨j, hj, _⟩ => hn1 q hq j hj
        have owi1 : ∀ q ∈ fps i, ¬ c1.own q := fun q hq ⟨j, hj, _⟩ => hn1 q hq j hj
        have kp : ∀ q ∈ fps i, H2 q = H q := fun q hq => by
          cases z : H q with
          | none => exact absurd z (offi q hq).2.1
          | some o => exact r2.keep q o (by rw [H0i q hq]; exact z) (owi1 q hq)
        have F2i : ∀ q ∈ fps i, F2 q = H q := fun q hq => by
          cases z : H q with
          | none => exact absurd z (offi q hq).2.1
          | some o => exact sF2 q o (by rw [e1 q hq]; exact z)
        have o2i : ∀ j q, q ∈ fps2 j → q ∉ fps i := fun j q hq hq' => by
          rcases (r2.off j q hq).2.2 with h | ⟨h, _⟩
          · rw [H0i q hq'] at h; exact (offi q hq').2.1 h
          · exact owi1 q hq' ⟨_, h⟩
        have sF3 : Same F (minF F2 (fps i)) := fun b u e => by
          have hb : b ∉ fps i := fun z => by rw [hFi b z] at e; cases e
          rw [minF_out hb]
          exact sF2 b u (by rw [e2 b hb]; exact e)
        have fin : Rel K c O (minF F2 (fps i)) H2 σ (fun j => if j = i then fps i else if j ∈ js then fps2 j else []) (mix ds s1 js) := by
          have cs : ∀ j q, q ∈ (if j = i then fps i else if j ∈ js then fps2 j else []) → (j = i ∧ q ∈ fps i) ∨ (j ≠ i ∧ j ∈ js ∧ q ∈ fps2 j) := fun j q hq => by
            by_cases z : j = i
            · rw [if_pos z] at hq; exact .inl ⟨z, hq⟩
            · rw [if_neg z] at hq
              by_cases y : j ∈ js
              · rw [if_pos y] at hq; exact .inr ⟨z, y, hq⟩
              · rw [if_neg y] at hq; cases hq
          refine ⟨fun b u e => ?_, r.base.trans sF3, fun b u e n => ?_, fun b e => c1n b (r2.live b e), fun b u e => ?_, fun j d0 hj => ?_, fun j q hq => ?_, fun j => ?_, fun j l hjl q hq hq' => ?_, r.par, by rw [mix_len]; exact r.len⟩
          · by_cases z : b ∈ fps i
            · rw [minF_in z] at e; cases e
            · rw [minF_out z] at e; exact r2.sub b u e
          · have hH := r.keep b u e n
            have hb : ∀ j, b ∉ asd fps i j := fun j hj => by
              rcases (r.off j b (asd_sub hj).2).2.2 with h | ⟨h, _⟩
              · rw [h] at e; cases e
              · exact n ⟨_, h⟩
            exact r2.keep b u (by rw [show c1.H0 b = H b from from_some (c := c) (F1 := F) fun ⟨j, hj, _⟩ => hb j hj]; exact hH) fun ⟨j, hj, _⟩ => hb j hj
          · by_cases z : b ∈ fps i
            · rw [minF_in z] at e; cases e
            · rw [minF_out z] at e
              rcases r2.new b u e with h | h
              · have h : frzF F H (fps i) b = some u := h
                rw [e2 b z] at h; exact r.new b u h
              · exact .inr (c1n b h)
          · by_cases z : j = i
            · subst z
              rw [mix_out _ _ _ _ hij, hdi] at hj
              cases hj
              refine ⟨w, hw, ?_⟩
              rw [if_pos rfl]
              exact ow_mono sF3 owi kp
            · rcases kO j z with ⟨y, hl⟩ | ⟨y, hs⟩
              · have hj' := mix_in _ _ _ _ _ y hj
                obtain ⟨u, hu, ow⟩ := r2.slots j d0 hj'
                refine ⟨u, hu, ?_⟩
                rw [getD_set_ne z] at ow
                rw [if_neg z, if_pos y]
                obtain ⟨p, xs, es, rfl, rfl, hp, hf, al⟩ := ow_ls hl ow
                have fo : scL es = true := by
                  have := List.all_eq_true.mp hz j y
                  simp only [hj'] at this
                  exact this
                have ow' : Ow K (minF F2 (fps i)) H2 (.ls .sh) (.ref p) (.list es) [p] := ls_ow hp (dpa_sc al fo)
                rw [hf]
                unfold lsish at hl
                split at hl
                · rename_i eq; rw [eq]; exact ow'
                · rename_i eq; rw [eq]; exact ow'
                · cases hl
              · rw [mix_out _ _ _ _ y] at hj
                obtain ⟨u, hu, ow⟩ := r.slots j d0 hj
                refine ⟨u, hu, ?_⟩
                rw [hs] at ow ⊢
                rw [if_neg z, if_neg y]
                exact ⟨rfl, dp_mono sF3 ow.2⟩
          · rcases cs j q hq with ⟨z, hq⟩ | ⟨z, y, hq⟩
            · subst z
              exact ⟨minF_in hq, by rw [kp q hq]; exact (offi q hq).2.1, (offi q hq).2.2⟩
            · obtain ⟨a, b, cc⟩ := r2.off j q hq
              refine ⟨by rw [minF_out (o2i j q hq)]; exact a, b, ?_⟩
              rcases cc with h | ⟨⟨hl, hp⟩, hp'⟩
              · exact .inl (c1n q h)
              · exact (r.off j q (asd_sub hl).2).2.2
          · by_cases z : j = i
            · simp only [if_pos z]; exact r.nd i
            · simp only [if_neg z]
              by_cases y : j ∈ js
              · rw [if_pos y]; exact r2.nd j
              · rw [if_neg y]; simp
          · rcases cs j q hq with ⟨z, h1⟩ | ⟨z, y, h1⟩
            · rcases cs l q hq' with ⟨z', h2⟩ | ⟨z', y', h2⟩
              · exact hjl (z.trans z'.symm)
              · exact o2i l q h2 h1
            · rcases cs l q hq' with ⟨z', h2⟩ | ⟨z', y', h2⟩
              · exact o2i j q h1 h2
              · exact r2.dj j l hjl q h1 h2
        exact q _ H2 _ v sF3 fin (dp_sc dp hn)
      · cases e
  · cases e⟩
end
section
variable {s : DS}
theorem ev_fzS_0 {i : Nat} {js : List Nat} {m : M D} {Q : D → DS → Prop} : Ev0 (mFzS i js m) s Q = So0 (look s i) fun _ => Ev0 m s fun d s' => (scD d && fzSk js s') = true ∧ Q d (mix s s' js) := by
  unfold Ev0 mFzS look
  cases s[i]? with
  | none => rfl
  | some o =>
    cases o with
    | none => rfl
    | some x =>
      simp only [so_some_0]
      cases m s with
      | no => rfl
      | ok d s' =>
        simp only
        by_cases hc : (scD d && fzSk js s') = true
        · simp only [hc, if_true, true_and]
        · simp only [hc, if_false, false_and, Bool.false_eq_true]
theorem ev_fzS {i : Nat} {js : List Nat} {m : M D} {Q : D → DS → Prop} : Ev (mFzS i js m) s Q = So (look s i) fun _ => Ev m s fun d s' => (scD d && fzSk js s') = true ∧ Q d (mix s s' js) := by with_unfolding_all exact ev_fzS_0
end
/-! ### places through tuples -/
def plIxT (mp : D → M (List Sel)) (n : Nat) : D → M (List Sel) := fun d => bnd (mp d) fun π => opt (match getP π d with
  | some (.tuple xs) => if n < xs.length then some (π ++ [.ix n]) else none
  | _ => none)
section
variable {K : Fg} {c : Ctx} {O : List Kd} {i n : Nat} {k k1 : Kd} {tp te : TE}
theorem plIxT_ok {mp : D → M (List Sel)} {d : D} {ds ds' : DS} {π : List Sel} (e : plIxT mp n d ds = .ok π ds') : ∃ ρ xs, mp d ds = .ok ρ ds' ∧ getP ρ d = some (.tuple xs) ∧ n < xs.length ∧ π = ρ ++ [.ix n] := by
  obtain ⟨ρ, s1, e1, e⟩ := bnd_ok e
  obtain ⟨e, hs⟩ := opt_ok e
  subst hs
  cases hx : getP ρ d with
  | none => rw [hx] at e; cases e
  | some x =>
    rw [hx] at e
    cases x with
    | tuple xs =>
      dsimp only at e
      split at e
      · cases e; exact ⟨ρ, xs, e1, hx, by assumption, rfl⟩
      · cases e
    | _ => cases e
theorem pl_ixT {mp : D → M (List Sel)} {a r : Kd} (n : Nat) (h : DPl K c O i k tp mp (.tc a r)) (he : DE K c O te (mC (.int n))) (hk : stepK (.ix n) (.tc a r) = some k1) : DPl K c O i k (tOp (rIx K) tp te) (plIxT mp n) k1 := ⟨fun {d ds ds' π} e => by
  obtain ⟨ρ, xs, e1, hx, hn, rfl⟩ := plIxT_ok e
  rw [kdP_append (h.kd e1)]
  unfold kdP
  rw [hk]
  rfl, fun {F H σ fps ds ds' π w d fp} rl e hw p hg Q q => by
  obtain ⟨ρ, xs, e1, hx, hn, rfl⟩ := plIxT_ok e
  refine h.run rl e1 hw p (by rw [hx]; rfl) _ fun F1 H1 fps1 v sF r1 vp => ?_
  obtain ⟨p1, a1, _⟩ := p.stay r1 sF
  refine he.run (d := .int n) (ds' := ds') r1 rfl _ fun F2 H2 fps2 z sF2 r2 dp => ?_
  obtain ⟨p2, a2, _⟩ := p1.stay r2 sF2
  cases dp
  obtain ⟨v', fp', vp', _, ow', sub, _, _⟩ := ow_path p2.ow (h.kd e1) hx p2.nd
  obtain ⟨v1, fp1, vq, vq2, _, _, _, _⟩ := ow_path p1.ow (h.kd e1) hx p1.nd
  have ev : v = v' := by
    have := vq2 H2 a2
    rw [VP.fun vp vq]
    exact VP.fun this vp'
  subst ev
  obtain ⟨ad, ys, es, fs, rfl, e3, ha, _, al⟩ := ow'
  cases e3
  obtain ⟨d1, hd1⟩ : ∃ d1, xs[n]? = some d1 := ⟨_, List.getElem?_eq_getElem hn⟩
  obtain ⟨u, _, _, _, hu, _⟩ := tup_step (k := .tc a r) al hk hd1
  have hl : n < ys.length := (List.getElem?_eq_some_iff.mp hu).1
  refine .inr (.inl ⟨ad, ys, (n : Int), u, rfl, rfl, SqT.of ha, atI_nat hu, q F2 H2 fps2 _ (sF.trans sF2) r2 (VP.append vp' ⟨_, ⟨ad, ys, rfl, .inr ha, hu⟩, rfl⟩)⟩)⟩
theorem c_opNoneT {Ob O' : List Kd} {t : TS} {b : MS} {k r : Kd} (i : Nat) (hk : O.getD i .sh = .op (.tc k r)) (hp : isPm O[i]? = false) (hi : i < O.length) (h : DC K c Ob (O.set i .sh) t b O') : DC K c Ob O t (sWhen i nonB b) O' :=
  c_when i hp hi (fun F H v d fp hP w => by
    rw [hk] at w
    rcases w with ⟨rfl, rfl, rfl⟩ | ⟨_, _, _, _, _, rfl, _⟩
    · exact ⟨rfl, .non⟩
    · cases hP) h
end
section
variable {s : DS}
theorem ev_plIxT_0 {d : D} {mp : D → M (List Sel)} {n : Nat} {Q : List Sel → DS → Prop} : Ev0 (plIxT mp n d) s Q = Ev0 (mp d) s fun π s1 => So0 (getP π d) fun x => So0 (tof x) fun xs => n < xs.length ∧ Q (π ++ [.ix n]) s1 := by
  unfold plIxT
  rw [ev_bnd_0]
  refine ev_ext_0 fun π s1 => ?_
  rw [ev_opt_0]
  cases getP π d with
  | none => rfl
  | some x =>
    cases x with
    | tuple xs =>
      simp only [so_some_0, tof]
      by_cases h : n < xs.length
      · simp only [h, if_true, true_and, so_some_0]
      · simp only [h, if_false, false_and]
        rfl
    | _ => rfl
theorem ev_plIxT {d : D} {mp : D → M (List Sel)} {n : Nat} {Q : List Sel → DS → Prop} : Ev (plIxT mp n d) s Q = Ev (mp d) s fun π s1 => So (getP π d) fun x => So (tof x) fun xs => n < xs.length ∧ Q (π ++ [.ix n]) s1 := by with_unfolding_all exact ev_plIxT_0
end
theorem scD_b {b : Bool} : scD (.bool b) = true := nr rfl
theorem scD_i {i : Int} : scD (.int i) = true := nr rfl
theorem scD_n : scD .none = true := nr rfl
theorem fzS0 {s : DS} : fzSk [] s = true := nr rfl
def scOo : Option D → Bool
  | some d => scO d
  | none => true
theorem fzSC {s : DS} {j : Nat} {js : List Nat} : fzSk (j :: js) s = (scOo (oat s j) && fzSk js s) := by
  show ((match s[j]? with | some (some d) => scO d | _ => true) && fzSk js s) = _
  congr 1
  unfold oat
  cases s[j]? with
  | none => rfl
  | some o => cases o <;> rfl
theorem scOO {d : D} : scOo (some d) = scO d := nr rfl
theorem scON : scOo none = true := nr rfl
theorem scOL {l : List D} : scO (.list l) = scL l := nr rfl
theorem scL0 : scL [] = true := nr rfl
theorem scLC {x : D} {l : List D} : scL (x :: l) = (scD x && scL l) := nr rfl
theorem notNon_t {l : List D} : (notNon (.tuple l) = true) = True := by simp [notNon, nonB]
section
variable {K : Fg} {c : Ctx} {O : List Kd} {te : TE} {m : M D}
theorem DO.eS {k : Kd} (h : DO K c O k te m) (hl : frzy k = true := by rfl) : DE K c O te m := ⟨fun {F H σ fps ds ds' d} r e Q q => by
  refine h.run r e _ fun F1 H1 fps1 v fpv sF r1 ow hf nd => ?_
  have hF : ∀ q ∈ fpv, F1 q = none := fun q hq => (hf q hq).1
  have s2 := same_frz (H := H1) hF
  have e1 : ∀ q, q ∉ fpv → frzF F1 H1 fpv q = F1 q := fun q hq => if_neg hq
  refine q (frzF F1 H1 fpv) H1 fps1 v (sF.trans s2) ⟨fun b u e => ?_, r1.base.trans s2, r1.keep, r1.live, fun b u e => ?_, fun i d hd => ?_, fun i q hq => ?_, r1.nd, r1.dj, r1.par, r1.len⟩ ((ow_frzS s2 (fp := fpv) (fun q hq => if_pos hq)).1 hl ow fun q hq => hq)
  · by_cases z : b ∈ fpv
    · have : frzF F1 H1 fpv b = H1 b := if_pos z
      rw [this] at e; exact e
    · rw [e1 b z] at e; exact r1.sub b u e
  · by_cases z : b ∈ fpv
    · exact .inr (hf b z).2.2.1
    · rw [e1 b z] at e; exact r1.new b u e
  · obtain ⟨u, hu, w⟩ := r1.slots i d hd
    exact ⟨u, hu, ow_mono s2 w fun _ _ => rfl⟩
  · rw [e1 q fun z => (hf q z).2.2.2 i hq]
    exact r1.off i q hq⟩
end
end Z
set_option Elab.async false
set_option linter.all false
set_option maxRecDepth 100000
set_option maxHeartbeats 1000000
namespace Z
open PySem L2
/-! ### x not in xs, xs.index(x) for things of any depth -/
def notInDp : D → D → Option D
  | d, .list ds => if SeqAt.shaped d && SeqAt.shaped (.list ds) then some (.bool (!ds.any fun z => PyData.eqv z d)) else none
  | _, _ => none
def idxDp : D → D → Option D
  | .list ds, d => if SeqAt.shaped d && SeqAt.shaped (.list ds) then (ds.findIdx? fun z => PyData.eqv z d).map fun j => .int (j : Nat) else none
  | _, _ => none
def mIdx (a b : M D) : M D := bnd a fun x => bnd b fun y => opt (idxDp x y)
section
variable {K : Fg} {c : Ctx} {O : List Kd} {ta tb : TE} {a b : M D}
theorem g_notInDp : OpG K (rNotInD K) notInDp := fun F H x y dx dy d sF vx vy e Q q => by
  unfold notInDp at e
  split at e
  · split at e
    · rename_i hf
      rw [Bool.and_eq_true] at hf
      cases e
      exact ⟨_, _, vx.dp sF, vy.dp sF, hf.1, hf.2, q F H _ .refl (.bl _)⟩
    · cases e
  · cases e
theorem d_index (ha : DE K c O ta a) (hb : DE K c O tb b) : DE K c O (tBM K "list" (rIndexD K) ta (tCons tb tNil)) (mIdx a b) := ⟨fun {F H σ fps ds ds' d} r e Q q => by
  obtain ⟨x, s1, e1, e⟩ := bnd_ok e
  obtain ⟨y, s2, e2, e⟩ := bnd_ok e
  obtain ⟨e3, z⟩ := opt_ok e
  subst z
  clear e
  cases x with
  | list ds0 =>
    unfold idxDp at e3
    dsimp only at e3
    split at e3
    · rename_i hf
      rw [Bool.and_eq_true] at hf
      rw [Option.map_eq_some_iff] at e3
      obtain ⟨j, hj, rfl⟩ := e3
      refine ha.run r e1 _ fun F1 H1 fps1 v sF r1 dp => ?_
      have dv : Dp K H1 v (.list ds0) := dp_mono r1.sub dp
      obtain ⟨p, rfl, hty⟩ : ∃ p, v = .ref p ∧ tyV K "list" v H1 := by
        cases dp with
        | lst hq al => exact ⟨_, rfl, .inl ⟨rfl, _, sqL_mono r1.sub hq⟩⟩
      refine ⟨hty, hb.run r1 e2 _ fun F2 H2 fps2 w sF2 r2 dpw => ?_⟩
      have hj' := List.findIdx?_eq_some_iff_getElem.mp hj
      obtain ⟨hl, hz, hn⟩ := hj'
      refine ⟨p, w, y, ds0, j, ds0[j], rfl, rfl, dp_mono r2.sub (dp_mono sF2 dp), dp_mono r2.sub dpw, hf.2, hf.1, List.getElem?_eq_getElem hl, hz, fun m z' hm hz' => ?_, q F2 H2 fps2 _ (sF.trans sF2) r2 (.int _)⟩
      have := hn m hm
      rw [List.getElem?_eq_getElem (by omega)] at hz'
      cases hz'
      simpa using this
    · cases e3
  | _ => cases e3⟩
end
section
variable {s : DS}
theorem ev_idx_0 {a b : M D} {Q : D → DS → Prop} : Ev0 (mIdx a b) s Q = Ev0 a s fun x s1 => Ev0 b s1 fun y s2 => So0 (idxDp x y) fun d => Q d s2 := by
  unfold mIdx
  rw [ev_bnd_0]
  refine ev_ext_0 fun x s1 => ?_
  rw [ev_bnd_0]
  refine ev_ext_0 fun y s2 => ?_
  rw [ev_opt_0]
theorem ev_idx {a b : M D} {Q : D → DS → Prop} : Ev (mIdx a b) s Q = Ev a s fun x s1 => Ev b s1 fun y s2 => So (idxDp x y) fun d => Q d s2 := by with_unfolding_all exact ev_idx_0
end
end Z
set_option Elab.async false
set_option linter.all false
set_option maxRecDepth 100000
set_option maxHeartbeats 1000000
namespace Z
open PySem L2
/-! ### for x, y in zip(xs, ..), xs a list of one's own that the body leaves alone -/
section
variable {K : Fg} {c : Ctx} {O Ob : List Kd} {F H F1 H1 F2 H2 : Hp} {σ σ1 σ2 : St} {fps fps1 fps2 : Nat → List Addr} {ds ds1 ds2 : DS}
theorem Rel.unfocusG (r : Rel K c O F1 H1 σ1 fps1 ds1) {O2 : List Kd} (r2 : Rel K (c.from O F1 H1 fps1) O2 F2 H2 σ2 fps2 ds2) : Rel K c O2 F2 H2 σ2 fps2 ds2 := by
  have hn : ∀ b, (c.from O F1 H1 fps1).H0 b = none → c.H0 b = none := fun b h => by
    rcases from_none h with ⟨i, hi, hp⟩ | h
    · rcases (r.off i b hi).2.2 with h | ⟨_, h⟩
      · exact h
      · rw [hp] at h; cases h
    · exact r.live b h
  refine ⟨r2.sub, r.base.trans r2.base, fun b o e n => ?_, fun b e => hn b (r2.live b e), fun b o e => ?_, r2.slots, fun i q hq => ?_, r2.nd, r2.dj, r2.par, r2.len⟩
  · have hb : ∀ i, b ∉ fps1 i := fun i hi => by
      rcases (r.off i b hi).2.2 with h | ⟨h, _⟩
      · rw [h] at e; cases e
      · exact n ⟨_, h⟩
    refine r2.keep b o ?_ (fun ⟨i, hi, _⟩ => hb i hi)
    rw [from_some (fun ⟨i, hi, _⟩ => hb i hi)]
    exact r.keep b o e n
  · rcases r2.new b o e with h | h
    · exact r.new b o h
    · exact .inr (hn b h)
  · obtain ⟨h1, h2, h3⟩ := r2.off i q hq
    refine ⟨h1, h2, ?_⟩
    rcases h3 with h3 | ⟨⟨hj, _⟩, h3⟩
    · exact .inl (hn q h3)
    · exact (r.off i q hj).2.2.imp id fun z => ⟨z.1, h3⟩
theorem Rel.lend (r : Rel K c O F H σ fps ds) {i : Nat} {p : Addr} (hl : i < ds.length) (hv : σ[i]? = some (some (.ref p))) (hp : isPm O[i]? = false) (hi : i < O.length) : Rel K c (O.set i (.xr p)) F H σ (asd fps i) (ds.set i (some .none)) := by
  refine ⟨r.sub, r.base, r.keep, r.live, r.new, fun j d hj => ?_, fun j q hq => ?_, fun j => ?_, fun j l hjl q hq hq' => r.dj j l hjl q (asd_sub hq).2 (asd_sub hq').2, fun j k hj => ?_, by rw [List.length_set]; exact r.len⟩
  · by_cases z : j = i
    · subst z
      refine ⟨.ref p, hv, ?_⟩
      rw [getD_set_eq hi]
      exact ⟨rfl, if_pos rfl⟩
    · rw [List.getElem?_set_ne (Ne.symm z)] at hj
      obtain ⟨u, hu, ow⟩ := r.slots j d hj
      refine ⟨u, hu, ?_⟩
      rw [getD_set_ne z]
      have : asd fps i j = fps j := if_neg z
      rw [this]
      exact ow
  · obtain ⟨z, hq⟩ := asd_sub hq
    rw [List.getElem?_set_ne (Ne.symm z)]
    exact r.off j q hq
  · unfold asd
    by_cases z : j = i
    · rw [if_pos z]; simp
    · rw [if_neg z]; exact r.nd j
  · obtain ⟨a, b⟩ := r.par j k hj
    have z : j ≠ i := fun z => by subst z; rw [a] at hp; cases hp
    exact ⟨by rw [List.getElem?_set_ne (Ne.symm z)]; exact a, b⟩
theorem Rel.unlend {i : Nat} {p : Addr} {vs : List V} {xs : List D} {d : D} (r : Rel K c (O.set i (.xr p)) F H σ fps ds) (hk : O[i]? = some (.ls .sh)) (hd : ds[i]? = some (some d)) (hH : H p = some (.lst vs)) (hF : F p = none) (h0 : c.H0 p = none) (hq : ∀ j, p ∉ fps j) (al : DpAll K F vs xs) :
    Rel K c O F H σ (fun j => if j = i then [p] else fps j) (ds.set i (some (.list xs))) := by
  have hi : i < O.length := (List.getElem?_eq_some_iff.mp hk).1
  obtain ⟨v, hv, hxr⟩ := r.slots i d hd
  rw [getD_set_eq hi] at hxr
  obtain ⟨rfl, hfi⟩ : v = .ref p ∧ fps i = [] := hxr
  have hg : O.getD i .sh = .ls .sh := by rw [List.getD_eq_getElem?_getD, hk]; rfl
  refine ⟨r.sub, r.base, r.keep, r.live, r.new, fun j e hj => ?_, fun j q hqj => ?_, fun j => ?_, fun j l hjl q h1 h2 => ?_, fun j k hj => ?_, by rw [List.length_set]; exact r.len⟩
  · by_cases z : j = i
    · subst z
      have hl : j < ds.length := (List.getElem?_eq_some_iff.mp hd).1
      rw [List.getElem?_set_self hl] at hj
      cases hj
      refine ⟨_, hv, ?_⟩
      rw [hg, if_pos rfl]
      exact ls_ow hH al
    · rw [List.getElem?_set_ne (Ne.symm z)] at hj
      obtain ⟨u, hu, ow⟩ := r.slots j e hj
      rw [getD_set_ne z] at ow
      exact ⟨u, hu, by rw [if_neg z]; exact ow⟩
  · by_cases z : j = i
    · subst z
      rw [if_pos rfl] at hqj
      have : q = p := by simpa using hqj
      subst this
      exact ⟨hF, by rw [hH]; simp, .inl h0⟩
    · rw [if_neg z] at hqj
      have := r.off j q hqj
      rw [List.getElem?_set_ne (Ne.symm z)] at this
      exact this
  · by_cases z : j = i
    · simp only [if_pos z]; simp
    · simp only [if_neg z]; exact r.nd j
  · by_cases z : j = i
    · simp only [if_pos z] at h1
      have : q = p := by simpa using h1
      subst this
      rw [if_neg (fun y => hjl (z.trans y.symm))] at h2
      exact hq l h2
    · simp only [if_neg z] at h1
      by_cases y : l = i
      · simp only [if_pos y] at h2
        have : q = p := by simpa using h2
        subst this
        exact hq j h1
      · simp only [if_neg y] at h2
        exact r.dj j l hjl q h1 h2
  · obtain ⟨a, b⟩ := r.par j k hj
    have z : j ≠ i := fun z => by subst z; rw [List.getElem?_set_self hi] at a; cases a
    rw [List.getElem?_set_ne (Ne.symm z)] at a
    exact ⟨a, b⟩
def finZ (i : Nat) (xs : List D) : RS → RS
  | .nx s => match s[i]? with
    | some (some _) => .nx (s.set i (some (.list xs)))
    | _ => .no
  | .rt d s => .rt d s
  | _ => .no
def sForZS (i : Nat) (mo : M D) (g : MG) (b : MS) : MS := fun s => match s[i]? with
  | some (some (.list _)) => match mo s with
    | .ok (.list ys) s1 => match s1[i]? with
      | some (some (.list xs)) => finZ i xs (loop g b (zipD xs ys) (s1.set i (some .none)))
      | _ => .no
    | _ => .no
  | _ => .no
theorem c_forZS {to : TE} {mo : M D} {g : TG} {mg : MG} {tb : TS} {b : MS} (i : Nat) (hk : O[i]? = some (.ls .sh)) (ho : DE K c O to mo) (hg : ∀ a c', DG K c' (O.set i (.xr a)) g mg)
    (hb : ∀ a c', c'.ps = c.ps → c'.rk = c.rk → c'.mg = c.mg → DC K c' (O.set i (.xr a)) (O.set i (.xr a)) tb b (O.set i (.xr a))) : DC K c Ob O (tFor (iZip K (tCons (tVar i) (tCons to tNil))) g tb) (sForZS i mo mg b) O := ⟨fun {F H σ fps ds} r E p => by
  unfold sForZS at p
  have hi : i < O.length := (List.getElem?_eq_some_iff.mp hk).1
  have hgd : O.getD i .sh = .ls .sh := by rw [List.getD_eq_getElem?_getD, hk]; rfl
  have hnp : isPm O[i]? = false := by rw [hk]; rfl
  split at p
  · rename_i x0 hx0
    split at p
    · rename_i ys s1 eo
      split at p
      · rename_i xs hxs
        obtain ⟨v0, hv0, ow0⟩ := r.slots i _ hx0
        rw [hgd] at ow0
        obtain ⟨p0, vs0, es0, rfl, _, hp0, _, _⟩ := ls_sh ow0
        refine ⟨_, hv0, ho.run r eo _ fun F1 H1 fps1 w sF r1 dpw => ?_⟩
        obtain ⟨v1, hv1, ow1⟩ := r1.slots i _ hxs
        rw [hgd] at ow1
        obtain ⟨p1, vs, es, rfl, e2, hp1, hfp, al⟩ := ls_sh ow1
        cases e2
        have : p1 = p0 := by rw [hv0] at hv1; cases hv1; rfl
        subst this
        have hoff := r1.off i p1 (by rw [hfp]; simp)
        have h0 : c.H0 p1 = none := by
          rcases hoff.2.2 with h | ⟨_, h⟩
          · exact h
          · rw [hnp] at h; cases h
        cases dpw with
        | lst hqb bl =>
          rename_i qb us
          have rL := r1.lend (List.getElem?_eq_some_iff.mp hxs).1 hv1 hnp hi
          have rF := rL.focus
          have hnq : ∀ j, p1 ∉ asd fps1 i j := fun j hj => by
            obtain ⟨z, hj⟩ := asd_sub hj
            exact r1.dj j i z p1 hj (by rw [hfp]; simp)
          have hH0 : (c.from (O.set i (.xr p1)) F1 H1 (asd fps1 i)).H0 p1 = some (.lst vs) := by
            rw [from_some fun ⟨j, hj, _⟩ => hnq j hj]; exact hp1
          have hown : ¬ (c.from (O.set i (.xr p1)) F1 H1 (asd fps1 i)).own p1 := fun ⟨j, hj, _⟩ => hnq j hj
          have stay : ∀ {O2 : List Kd} {F2 H2 : Hp} {σ2 : St} {fps2 : Nat → List Addr} {ds2 : DS}, Rel K (c.from (O.set i (.xr p1)) F1 H1 (asd fps1 i)) O2 F2 H2 σ2 fps2 ds2 → H2 p1 = some (.lst vs) ∧ F2 p1 = none ∧ ∀ j, p1 ∉ fps2 j := fun {O2 F2 H2 σ2 fps2 ds2} r2 => by
            refine ⟨r2.keep p1 _ hH0 hown, ?_, fun j hj => ?_⟩
            · cases z : F2 p1 with
              | none => rfl
              | some o =>
                rcases r2.new p1 o z with h | h
                · have h : F1 p1 = some o := h
                  rw [hoff.1] at h; cases h
                · rw [hH0] at h; cases h
            · rcases (r2.off j p1 hj).2.2 with h | ⟨h, _⟩
              · rw [hH0] at h; cases h
              · exact hown ⟨_, h⟩
          have c1n : ∀ q, (c.from (O.set i (.xr p1)) F1 H1 (asd fps1 i)).H0 q = none → c.H0 q = none := fun q hq => by
            rcases from_none hq with ⟨j, hj, hpj⟩ | hq
            · rcases (rL.off j q hj).2.2 with h | ⟨_, h⟩
              · exact h
              · rw [hpj] at h; cases h
            · exact r1.live q hq
          have endN : ∀ {F2 H2 : Hp} {σ2 : St} {fps2 : Nat → List Addr} {ds2 : DS} {FB : Hp}, Same F1 F2 → Same FB F2 → Rel K (c.from (O.set i (.xr p1)) F1 H1 (asd fps1 i)) (O.set i (.xr p1)) F2 H2 σ2 fps2 ds2 → Post K c Ob O FB E (finZ i xs (.nx ds2)) → E.nx σ2 H2 := fun {F2 H2 σ2 fps2 ds2 FB} s2 sB r2 p2 => by
            obtain ⟨g1, g2, g3⟩ := stay r2
            unfold finZ at p2
            dsimp only at p2
            split at p2
            · rename_i d2 hd2
              exact p2 F2 H2 σ2 _ sB ((rL.unfocusG r2).unlend hk hd2 g1 g2 h0 g3 (dpa_mono s2 al))
            · exact p2.elim
          refine ⟨p1, qb, vs, us, rfl, SqL.of hp1, sqL_mono r1.sub hqb, ?_⟩
          refine ⟨fun n m σ H => m + n = (zipD xs ys).length ∧ ∃ F' fps' ds', Same F1 F' ∧ Rel K (c.from (O.set i (.xr p1)) F1 H1 (asd fps1 i)) (O.set i (.xr p1)) F' H σ fps' ds' ∧ Post K c Ob O F' E (finZ i xs (loop mg b ((zipD xs ys).drop n) ds')), ⟨(zipD xs ys).length, by omega, F1, _, _, Same.refl _, rF, p.mono sF⟩, ?_⟩
          rintro n m σ2 H2 ⟨hm, F2, fps2, ds2, s2, r2, p2⟩
          obtain ⟨g1, g2, g3⟩ := stay r2
          have hqa : SqL K H2 p1 vs := SqL.of g1
          have hqb2 : SqL K H2 qb us := sqL_mono r2.sub (sqL_mono s2 hqb)
          have lv := dpa_len al
          have lu := dpa_len bl
          cases hx : (zipD xs ys)[n]? with
          | none =>
            have hl : (zipD xs ys).length ≤ n := List.getElem?_eq_none_iff.mp hx
            refine .inl ⟨⟨vs, us, hqa, hqb2, by rw [zipD_len] at hl; omega⟩, ?_⟩
            rw [List.drop_of_length_le hl] at p2
            exact endN s2 (Same.refl _) r2 p2
          | some d =>
            have hlt : n < (zipD xs ys).length := (List.getElem?_eq_some_iff.mp hx).1
            have hdr : (zipD xs ys).drop n = d :: (zipD xs ys).drop (n + 1) := by
              rw [List.drop_eq_getElem_cons hlt]
              congr 1
              rw [List.getElem?_eq_getElem hlt] at hx
              exact Option.some.inj hx
            rw [hdr] at p2
            unfold loop at p2
            have hx' := hx
            unfold zipD at hx'
            rw [List.getElem?_zipWith] at hx'
            cases ex : xs[n]? with
            | none => rw [ex] at hx'; cases hx'
            | some xe =>
              cases ey : ys[n]? with
              | none => rw [ex, ey] at hx'; cases hx'
              | some ye =>
                rw [ex, ey] at hx'
                cases hx'
                obtain ⟨v, hv, dp⟩ := dpa_get al ex
                obtain ⟨u, hu, dq⟩ := dpa_get bl ey
                refine .inr ⟨⟨vs, us, v, u, hqa, hqb2, hv, hu⟩, fun σ' H' => ∃ F' fps' ds', Same F1 F' ∧ Rel K (c.from (O.set i (.xr p1)) F1 H1 (asd fps1 i)) (O.set i (.xr p1)) F' H' σ' fps' ds' ∧ Post K c Ob O F' E (finZ i xs (loop mg b ((zipD xs ys).drop (n + 1)) ds')), fun σ' H' h => ⟨m - 1, by omega, by omega, h⟩, fun z H3 hz => ?_⟩
                obtain ⟨T, x', y', rfl, hT, rfl, hx2, hy2⟩ := hz
                have q1 := hx2 vs hqa
                have q2 := hy2 us hqb2
                rw [hv] at q1
                rw [hu] at q2
                cases q1
                cases q2
                have gr : Grow F2 H2 (upd F2 T (.tup [v, u])) (upd H2 T (.tup [v, u])) := .new _ hT
                obtain ⟨r3, s3⟩ := gr.rel r2
                have dpT : Dp K (upd F2 T (.tup [v, u])) (.ref T) (.tuple [xe, ye]) := .tup (SqT.of upd_same) (.cons (dp_mono s3 (dp_mono s2 dp)) (.cons (dp_mono s3 (dp_mono s2 dq)) .nil))
                split at p2
                · rename_i ds3 hg3
                  refine (hg p1 _).run r3 dpT hg3 _ fun σ4 fps4 r4 => ?_
                  refine (hb p1 (c.from (O.set i (.xr p1)) F1 H1 (asd fps1 i)) rfl rfl rfl).run r4 _ ?_
                  have s13 : Same F1 (upd F2 T (.tup [v, u])) := s2.trans s3
                  have p3 := p2.mono s3
                  cases eb : b ds3 with
                  | nx s4 => rw [eb] at p3; exact fun F5 H5 σ5 fps5 s5 r5 => ⟨F5, fps5, s4, s13.trans s5, r5, p3.mono s5⟩
                  | ct s4 => rw [eb] at p3; exact fun F5 H5 σ5 fps5 s5 r5 => ⟨F5, fps5, s4, s13.trans s5, r5, p3.mono s5⟩
                  | bk s4 => rw [eb] at p3; exact fun F5 H5 σ5 fps5 s5 r5 => endN (s13.trans s5) s5 r5 p3
                  | rt d s4 => rw [eb] at p3; exact fun F5 H5 σ5 fps5 O'' v fpv s5 r5 ow hf nd => p3 F5 H5 σ5 fps5 O'' v fpv s5 (rL.unfocusG r5) ow (fun q hq => ⟨(hf q hq).1, (hf q hq).2.1, c1n q (hf q hq).2.2.1, (hf q hq).2.2.2⟩) nd
                  | ex x s4 => rw [eb] at p3; exact p3.elim
                  | no => rw [eb] at p3; exact p3.elim
                · exact p2.elim
      · exact p.elim
    · exact p.elim
  · exact p.elim⟩
end
section
variable {s : DS} {Nx : DS → Prop} {Rt : D → DS → Prop} {Bk Ct : DS → Prop} {Ex : Xc → DS → Prop}
theorem run_forZS_0 {i : Nat} {mo : M D} {g : MG} {b : MS} : Run0 (sForZS i mo g b) s Nx Rt Bk Ct Ex = So0 (look s i) fun d0 => So0 (lof d0) fun _ => Ev0 mo s fun d s1 => So0 (lof d) fun ys => So0 (look s1 i) fun d1 => So0 (lof d1) fun xs => Fo0 (zipD xs ys) (s1.set i (some .none)) g b (fun s' => So0 (look s' i) fun _ => Nx (s'.set i (some (.list xs)))) Rt (fun _ => False) (fun _ => False) fun _ _ => False := by
  unfold look
  dsimp only [Run0, sForZS]
  cases h : s[i]? with
  | none => rfl
  | some o =>
    cases o with
    | none => rfl
    | some d0 =>
      cases d0 <;> try rfl
      unfold Ev0
      cases mo s with
      | no => rfl
      | ok d s1 =>
        cases d <;> try rfl
        dsimp only [So0, lof]
        cases h' : s1[i]? with
        | none => rfl
        | some o =>
          cases o with
          | none => rfl
          | some d1 =>
            cases d1 <;> try rfl
            rename_i ys l xs
            dsimp only
            unfold Fo0 Run0
            generalize loop g b (zipD xs l) (s1.set i (some .none)) = L
            cases L with
            | nx s' =>
              unfold finZ
              dsimp only
              cases s'[i]? with
              | none => rfl
              | some o => cases o <;> rfl
            | rt d s' => rfl
            | bk s' => rfl
            | ct s' => rfl
            | ex x s' => rfl
            | no => rfl
theorem run_forZS {i : Nat} {mo : M D} {g : MG} {b : MS} : Run (sForZS i mo g b) s Nx Rt Bk Ct Ex = So (look s i) fun d0 => So (lof d0) fun _ => Ev mo s fun d s1 => So (lof d) fun ys => So (look s1 i) fun d1 => So (lof d1) fun xs => Fo (zipD xs ys) (s1.set i (some .none)) g b (fun s' => So (look s' i) fun _ => Nx (s'.set i (some (.list xs)))) Rt (fun _ => False) (fun _ => False) fun _ _ => False := by with_unfolding_all exact run_forZS_0
end
theorem so_ninDp {d : D} {ds : List D} {Q : D → Prop} (h1 : SeqAt.shaped d = true) (h2 : SeqAt.shaped (.list ds) = true) (q : Q (.bool (!ds.any fun z => PyData.eqv z d))) : So (notInDp d (.list ds)) Q := by
  have : notInDp d (.list ds) = some (.bool (!ds.any fun z => PyData.eqv z d)) := by
    show (if (SeqAt.shaped d && SeqAt.shaped (.list ds)) = true then some (PyData.bool (!ds.any fun z => PyData.eqv z d)) else none) = _
    rw [h1, h2]
    rfl
  rw [this, so_some]
  exact q
theorem so_idxDp {d : D} {ds : List D} {j : Nat} {Q : D → Prop} (h1 : SeqAt.shaped d = true) (h2 : SeqAt.shaped (.list ds) = true) (hj : (ds.findIdx? fun z => PyData.eqv z d) = some j) (q : Q (.int j)) : So (idxDp (.list ds) d) Q := by
  have : idxDp (.list ds) d = some (.int j) := by
    show (if (SeqAt.shaped d && SeqAt.shaped (.list ds)) = true then (ds.findIdx? fun z => PyData.eqv z d).map (fun j => PyData.int (j : Nat)) else none) = _
    rw [h1, h2, hj]
    rfl
  rw [this, so_some]
  exact q
theorem units65 {k : Nat} {A : Around} (h : Room k A) : A.units + 65 < cLine := by have := h.un; omega
end Z
set_option Elab.async false
set_option linter.all false
set_option maxRecDepth 100000
set_option maxHeartbeats 2000000
namespace Z
open PySem L2 PySem.Spec PyProof.Rows
/-! ### dicts whose keys are tuples of whole numbers, nested: rules -/
mutual
theorem nk_hash (w w' : World) : ∀ k : NestedKey, nkI k = true → k.hash w = k.hash w'
  | .none, h => by cases h
  | .num _, _ => rfl
  | .text _, h => by cases h
  | .tup ks, h => by
    show reduceHash (Builtin.Tuple.tupleHashOf (NestedKey.hashes w ks)) = reduceHash (Builtin.Tuple.tupleHashOf (NestedKey.hashes w' ks))
    rw [nk_hashes w w' ks h]
theorem nk_hashes (w w' : World) : ∀ ks : List NestedKey, nkIs ks = true → NestedKey.hashes w ks = NestedKey.hashes w' ks
  | [], _ => rfl
  | k :: r, h => by
    rw [nkIs, Bool.and_eq_true] at h
    show k.hash w :: NestedKey.hashes w r = k.hash w' :: NestedKey.hashes w' r
    rw [nk_hash w w' k h.1, nk_hashes w w' r h.2]
end
section
variable {X : Cx} {pins : List (Addr × Obj)} {σ : L2.St} {H : Hp} {s : Shared}
mutual
theorem dp_nested (I : Inv X pins σ H s) : ∀ (k : NestedKey) (v : V) (u : Value), nkI k = true → Dp X.K H v (nkD k) → RelV v u → NestedIs s.heap k u
  | .none, _, _, h, _, _ => by cases h
  | .text _, _, _, h, _, _ => by cases h
  | .num i, v, u, _, d, r => by
    cases d with
    | int _ =>
      obtain ⟨t, rfl⟩ := (show ∃ t, u = Value.int i t from r)
      exact .int i t
  | .tup ks, v, u, h, d, r => by
    cases d with
    | tup hq al =>
      rename_i a xs
      obtain rfl : u = Value.ref a := r
      obtain ⟨its, rv, ⟨o, ho, hc, n, hd⟩, _⟩ := I.tuple hq
      exact .tup ho hc hd (by simpa using dp_nestedA I ks xs its h al rv)
theorem dp_nestedA (I : Inv X pins σ H s) : ∀ (ks : List NestedKey) (vs : List V) (us : List Value), nkIs ks = true → DpAll X.K H vs (nkDs ks) → Vals vs us → NestedAll s.heap ks us
  | [], vs, us, _, d, r => by
    cases d
    cases r
    exact .nil
  | k :: ks, vs, us, h, d, r => by
    rw [nkIs, Bool.and_eq_true] at h
    cases d with
    | cons d1 d2 =>
      cases r with
      | cons r1 r2 => exact .cons (dp_nested I k _ _ h.1 d1 r1) (dp_nestedA I ks _ _ h.2 d2 r2)
end
end
/-- what a key is, where it stands -/
def NK (K : Fg) (H : Hp) (k : NestedKey) (b : Addr) : Prop := nkI k = true ∧ k.depth ≤ 8 ∧ Dp K H (.ref b) (nkD k)
def NKs (K : Fg) (H : Hp) (xs : List NdX) : Prop := ∀ x ∈ xs, NK K H x.1 x.2.1
def nVal (xs : List NdX) (k : NestedKey) : Option V := (xs.find? fun x => decide (x.1 = k)).map (·.2.2)
def nPut (xs : List NdX) (k : NestedKey) (b : Addr) (v : V) : List NdX :=
  if (nVal xs k).isSome = true then xs.map (fun x => if x.1 = k then (x.1, x.2.1, v) else x) else xs ++ [(k, b, v)]
theorem nVal_cons {x : NdX} {xs : List NdX} {k : NestedKey} : nVal (x :: xs) k = if x.1 = k then some x.2.2 else nVal xs k := by
  unfold nVal
  rw [List.find?_cons]
  by_cases e : x.1 = k
  · simp [e]
  · simp [e]
abbrev NU := Paired (fun (x : NdX) (u : NestedKey × Addr × Value) => x.1 = u.1 ∧ x.2.1 = u.2.1 ∧ RelV x.2.2 u.2.2)
theorem atKey_cons {x : NestedKey × Addr × Value} {xs : List (NestedKey × Addr × Value)} {k : NestedKey} : atKey (x :: xs) k = if x.1 = k then some x.2 else atKey xs k := by
  unfold atKey
  rw [List.find?_cons]
  by_cases e : x.1 = k
  · simp [e]
  · simp [e]
theorem nu_val {xs : List NdX} {us : List (NestedKey × Addr × Value)} (r : NU xs us) (k : NestedKey) : RelO (nVal xs k) ((atKey us k).map (·.2)) := by
  induction r with
  | nil => exact True.intro
  | @cons p q ps qs h t ih =>
    rw [nVal_cons, atKey_cons]
    obtain ⟨h1, h2, h3⟩ := h
    by_cases e : p.1 = k
    · rw [if_pos e, if_pos (h1.symm.trans e)]; exact h3
    · rw [if_neg e, if_neg fun z => e (h1.trans z)]; exact ih
theorem nu_some {xs : List NdX} {us : List (NestedKey × Addr × Value)} (r : NU xs us) (k : NestedKey) : (nVal xs k).isSome = (atKey us k).isSome := by
  have := (nu_val r k).isSome_eq
  rw [Option.isSome_map] at this
  exact this
theorem nu_put {xs : List NdX} {us : List (NestedKey × Addr × Value)} (r : NU xs us) (k : NestedKey) (b : Addr) {v : V} {u : Value} (rv : RelV v u) : NU (nPut xs k b v) (storedH us k b u) := by
  unfold nPut storedH
  rw [nu_some r k]
  by_cases q : (atKey us k).isSome = true
  · rw [if_pos q, if_pos q]
    clear q
    induction r with
    | nil => exact .nil
    | @cons p q ps qs h t ih =>
      rw [List.map_cons, List.map_cons]
      refine .cons ?_ ih
      obtain ⟨h1, h2, h3⟩ := h
      unfold putAt
      by_cases e : p.1 = k
      · rw [if_pos e, if_pos (h1.symm.trans e)]; exact ⟨h1, h2, rv⟩
      · rw [if_neg e, if_neg fun z => e (h1.trans z)]; exact ⟨h1, h2, h3⟩
  · rw [if_neg q, if_neg q]
    exact Paired.snoc r ⟨rfl, rfl, rv⟩
theorem nPut_len (xs : List NdX) (k : NestedKey) (b : Addr) (v : V) : (nPut xs k b v).length ≤ xs.length + 1 := by
  unfold nPut
  split
  · rw [List.length_map]; omega
  · rw [List.length_append, List.length_singleton]; omega
theorem nPut_mem {xs : List NdX} {k : NestedKey} {b : Addr} {v : V} {x : NdX} (h : x ∈ nPut xs k b v) : (∃ y ∈ xs, y.1 = x.1 ∧ y.2.1 = x.2.1) ∨ (x.1 = k ∧ x.2.1 = b) := by
  unfold nPut at h
  split at h
  · obtain ⟨y, hy, e⟩ := List.mem_map.mp h
    left
    refine ⟨y, hy, ?_⟩
    by_cases z : y.1 = k
    · rw [if_pos z] at e; subst e; exact ⟨rfl, rfl⟩
    · rw [if_neg z] at e; subst e; exact ⟨rfl, rfl⟩
  · rcases List.mem_append.mp h with h | h
    · exact .inl ⟨x, h, rfl, rfl⟩
    · rw [List.mem_singleton] at h; subst h; exact .inr ⟨rfl, rfl⟩
theorem NKs.put {K : Fg} {H : Hp} {xs : List NdX} {k : NestedKey} {b : Addr} (h : NKs K H xs) (hk : NK K H k b) (v : V) : NKs K H (nPut xs k b v) := fun x hx => by
  rcases nPut_mem hx with ⟨y, hy, e1, e2⟩ | ⟨e1, e2⟩
  · rw [← e1, ← e2]; exact h y hy
  · rw [e1, e2]; exact hk
theorem NK.mono {K : Fg} {H H' : Hp} (e : Same H H') {k : NestedKey} {b : Addr} (h : NK K H k b) : NK K H' k b := ⟨h.1, h.2.1, dp_mono e h.2.2⟩
theorem NKs.mono {K : Fg} {H H' : Hp} (e : Same H H') {xs : List NdX} (h : NKs K H xs) : NKs K H' xs := fun x hx => (h x hx).mono e
/-- what the dict at a holds at y; the heap behind a[y] = v -/
def NGet (K : Fg) (H : Hp) (a : Addr) (y : V) (r : Option V) : Prop := ∃ xs k b, H a = some (NdO a xs) ∧ NKs K H xs ∧ y = .ref b ∧ NK K H k b ∧ r = nVal xs k
def NPut (K : Fg) (H : Hp) (a : Addr) (y v : V) (H' : Hp) : Prop := ∃ xs k b, H a = some (NdO a xs) ∧ NKs K H xs ∧ y = .ref b ∧ NK K H k b ∧ xs.length < sizeLine ∧ H' = upd H a (NdO a (nPut xs k b v))
section
variable {X : Cx} {pins : List (Addr × Obj)} {σ : L2.St} {H : Hp} {s : Shared} {a : Addr} {y v : V} {u r : Value} {o : Option V} {A : Around} {E : Value → Shared → Prop}
theorem nk_is (I : Inv X pins σ H s) {k : NestedKey} {b : Addr} (h : NK X.K H k b) : (nestedKind X.prog X.w).is s.heap k b := ⟨dp_nested I k _ _ h.1 h.2.2 rfl, h.2.1⟩
theorem nd_of {xs : List NdX} (I : Inv X pins σ H s) (e : H a = some (NdO a xs)) (hk : NKs X.K H xs) : (a == sysModules) = false ∧ xs.length ≤ sizeLine ∧ ∃ us, NU xs us ∧ s.heap.DictOfH (nestedKind X.prog X.w) a us := by
  obtain ⟨⟨h1, h2, us, rel, ob, es, ep, q1, q2, q3, q4, q5⟩, _⟩ := (show ObjOk X.prog X.w H s.heap a (NdO a xs) from I.hok a _ e)
  refine ⟨h1, h2, us, rel, ob, es, ep, q1, q2, q3, q4 X.prog X.w, ?_, q5⟩
  have all : ∀ {l : List NdX} {m : List (NestedKey × Addr × Value)}, NU l m → NKs X.K H l → ∀ x ∈ m, (nestedKind X.prog X.w).is s.heap x.1 x.2.1 := by
    intro l m q
    induction q with
    | nil => intro _ x hx; exact nomatch hx
    | @cons p q ps qs hq t ih =>
      intro hh x hx
      rcases List.mem_cons.mp hx with e | hx
      · subst e
        rw [← hq.1, ← hq.2.1]
        exact nk_is I (hh p (by simp))
      · exact ih (fun z hz => hh z (by simp [hz])) x hx
  exact all rel hk
theorem nd_new {P : Program} {w : World} {H' : Hp} {h' : Heap} {xs : List NdX} {us : List (NestedKey × Addr × Value)} (h1 : (a == sysModules) = false) (h2 : xs.length ≤ sizeLine) (rel : NU xs us) (hi : ∀ x ∈ xs, nkI x.1 = true) (d : h'.DictOfH (nestedKind P w) a us) : ObjOk P w H' h' a (NdO a xs) := by
  obtain ⟨ob, es, ep, q1, q2, q3, q4, _, q5⟩ := d
  refine ⟨⟨h1, h2, us, rel, ob, es, ep, q1, q2, q3, fun P' w' => ?_, q5⟩, ⟨ob, q1⟩, fun k1 k2 => ?_⟩
  · rw [q4]
    have all : ∀ {l : List NdX} {m : List (NestedKey × Addr × Value)}, NU l m → (∀ x ∈ l, nkI x.1 = true) → m.map (entryOfKey (nestedKind P w)) = m.map (entryOfKey (nestedKind P' w')) := by
      intro l m q
      induction q with
      | nil => intro _; rfl
      | @cons p q ps qs hq t ih =>
        intro hh
        rw [List.map_cons, List.map_cons, ih fun z hz => hh z (by simp [hz])]
        congr 1
        show DictEntry.mk (q.1.hash w) _ _ = DictEntry.mk (q.1.hash w') _ _
        rw [nk_hash w w' q.1 (by rw [← hq.1]; exact hh p (by simp))]
    exact all rel hi
  · rintro ⟨a1, a2, us', rel', ob', es', ep', b1, b2, b3, b4, b5⟩ kk
    exact ⟨a1, a2, us', rel', ob', es', ep', kk _ b1, b2, b3, b4, b5⟩
theorem n_getItem {Q : Value → Shared → Prop} (hu : A.units + 9 < cLine) (I : Inv X pins σ H s) (g : NGet X.K H a y (some v)) (ry : RelV y u) (h : ∀ w' s', Inv X pins σ H s' → RelV v w' → Q w' s') :
    wpAny (model X.prog X.w) A (getItem (.ref a) u) Q E s := by
  obtain ⟨xs, k, b, e, hk, rfl, hb, l⟩ := g
  cases (show u = Value.ref b from ry)
  obtain ⟨h1, h2, us, rel, dd⟩ := nd_of I e hk
  obtain ⟨w', hw, rw'⟩ := RelO.some_of (v := v) (o := (atKey us k).map (·.2)) (by rw [l]; exact nu_val rel k)
  obtain ⟨p, hp, hp2⟩ := Option.map_eq_some_iff.mp hw
  refine wpAny_getItem_heap (show A.in1.units + 8 < cLine by simp only [Around.in1_units]; omega) (nk_is I hb) dd hp ?_
  rw [hp2]
  exact h w' _ (I.tok _) rw'
theorem n_in {Q : Value → Shared → Prop} (hu : A.units + 9 < cLine) (I : Inv X pins σ H s) (g : NGet X.K H a y o) (ry : RelV y u) (h : ∀ s', Inv X pins σ H s' → Q (.bool o.isSome) s') :
    wpAny (model X.prog X.w) A (compareOp .In u (.ref a)) Q E s := by
  obtain ⟨xs, k, b, e, hk, rfl, hb, l⟩ := g
  cases (show u = Value.ref b from ry)
  obtain ⟨h1, h2, us, rel, dd⟩ := nd_of I e hk
  refine wpAny_in_heap (show A.in1.units + 8 < cLine by simp only [Around.in1_units]; omega) (nk_is I hb) h1 dd ?_
  rw [← nu_some rel k, ← l]
  exact h _ (I.tok _)
theorem n_notIn {Q : Value → Shared → Prop} (hu : A.units + 9 < cLine) (I : Inv X pins σ H s) (g : NGet X.K H a y o) (ry : RelV y u) (h : ∀ s', Inv X pins σ H s' → Q (.bool (!o.isSome)) s') :
    wpAny (model X.prog X.w) A (compareOp .NotIn u (.ref a)) Q E s := by
  obtain ⟨xs, k, b, e, hk, rfl, hb, l⟩ := g
  cases (show u = Value.ref b from ry)
  obtain ⟨h1, h2, us, rel, dd⟩ := nd_of I e hk
  refine wpAny_notIn_heap (show A.in1.units + 8 < cLine by simp only [Around.in1_units]; omega) (nk_is I hb) h1 dd ?_
  rw [← nu_some rel k, ← l]
  exact h _ (I.tok _)
theorem n_setItem {H' : Hp} {Q : Unit → Shared → Prop} (hu : A.units + 9 < cLine) (I : Inv X pins σ H s) (g : NPut X.K H a y v H') (ry : RelV y u) (rv : RelV v r) (h : ∀ s', Inv X pins σ H' s' → Q () s') :
    wpAny (model X.prog X.w) A (setItem (.ref a) u r) Q E s := by
  obtain ⟨xs, k, b, e, hk, rfl, hb, hl, rfl⟩ := g
  cases (show u = Value.ref b from ry)
  obtain ⟨h1, h2, us, rel, dd⟩ := nd_of I e hk
  have hz : us.length ≤ sizeLine := by rw [← Paired.length rel]; exact h2
  have hl' : (nPut xs k b v).length ≤ sizeLine := by have := nPut_len xs k b v; omega
  refine wpAny_setItem_heap (hsz := hz) (show A.in1.units + 8 < cLine by simp only [Around.in1_units]; omega) (nk_is I hb) dd fun h' dd' hs => h _ ?_
  have he : ∃ q, h'.get? a = some q := let ⟨q, _, _, hq, _⟩ := dd'; ⟨q, hq⟩
  exact d_write I (by rw [e]; exact True.intro) hs he (nd_new h1 hl' (nu_put rel k b rv) (fun x hx => (hk.put hb v x hx).1) dd')
theorem n_get2 {Q : Value → Shared → Prop} {d : V} (hu : A.units + 9 < cLine) (I : Inv X pins σ H s) (g : NGet X.K H a y o) (ry : RelV y u) (rd : RelV d r) (h : ∀ w' s', Inv X pins σ H s' → RelV (o.getD d) w' → Q w' s') :
    wpAny (model X.prog X.w) A (call (.builtin "dict.get") [.ref a, u, r]) Q E s := by
  obtain ⟨xs, k, b, e, hk, rfl, hb, l⟩ := g
  cases (show u = Value.ref b from ry)
  obtain ⟨h1, h2, us, rel, dd⟩ := nd_of I e hk
  refine call_meetsIn PySem.F.slot_dict_get dd.typeIs PySem.F.entry_dict_get (PySem.F.args_dict_get_3 _ _ _) (meetsH_dict_get_default (nestedKind X.prog X.w) a b h1 r) ⟨show A.in1.units + 8 < cLine by simp only [Around.in1_units]; omega, k, us, nk_is I hb, dd, h _ _ (I.tok _) ?_⟩
  rw [l]
  exact (nu_val rel k).getD rd
theorem nd_typeIs (I : Inv X pins σ H s) {xs : List NdX} (e : H a = some (NdO a xs)) : s.TypeIs (.ref a) "dict" ∧ (∀ b, Value.ref a = .ref b → ∃ ob, s.heap.get? b = some ob ∧ ob.dict = none) ∧ (a == sysModules) = false := by
  obtain ⟨⟨h1, h2, us, rel, ob, es, ep, q1, q2, q3, q4, q5⟩, _⟩ := (show ObjOk X.prog X.w H s.heap a (NdO a xs) from I.hok a _ e)
  refine ⟨⟨ob, q1, q2.1⟩, fun b q => ?_, h1⟩
  cases q
  exact ⟨ob, q1, q2.2.1⟩
end
/-! readings and rules -/
def tNGet (K : Fg) (td ty : TE) : TE := fun σ H Q => td σ H fun x H1 => ty σ H1 fun y H2 => ∃ a v, x = .ref a ∧ NGet K H2 a y (some v) ∧ Q v H2
def tNIn (K : Fg) (ty td : TE) : TE := fun σ H Q => ty σ H fun y H1 => td σ H1 fun x H2 => ∃ a o, x = .ref a ∧ NGet K H2 a y o ∧ Q (.bl o.isSome) H2
def tNNotIn (K : Fg) (ty td : TE) : TE := fun σ H Q => ty σ H fun y H1 => td σ H1 fun x H2 => ∃ a o, x = .ref a ∧ NGet K H2 a y o ∧ Q (.bl (!o.isSome)) H2
def sNPut (K : Fg) (td ty tv : TE) : TS := fun D σ H => tv σ H fun v H1 => td σ H1 fun x H2 => ty σ H2 fun y H3 => ∃ a H4, x = .ref a ∧ NPut K H3 a y v H4 ∧ D.nx σ H4
def tNGet2 (K : Fg) (td ty tx : TE) : TE := fun σ H Q => td σ H fun x H1 => ∃ a xs, x = .ref a ∧ H1 a = some (NdO a xs) ∧ ty σ H1 fun y H2 => tx σ H2 fun z H3 => ∃ o, NGet K H3 a y o ∧ Q (o.getD z) H3
def tDNewN : TE := fun _ H Q => ∀ p, H p = none → Q (.ref p) (upd H p (NdO p []))
section
variable {X : Cx} {o i e f value : Expr} {pos pos' apos cpos : Pos} {td ty tv tx : TE}
theorem pe_nget (hu : X.A.units + 9 < cLine) (ho : PE X o td) (hi : PE X i ty) (hs : NoSl i) : PE X (.Subscript o i pos) (tNGet X.K td ty) := by
  refine ⟨fun pins s σ H Q I h => ?_⟩
  refine subD_of PySem.F.slot_dict_getitem.lookup hs (thn (ho.run pins s σ H _ I h) fun u s1 ⟨x, H1, I1, rx, q1⟩ => thn (hi.run pins s1 σ H1 _ I1 q1) fun iv s2 ⟨y, H2, I2, ry, a, v, ex, g, q2⟩ => ?_)
  subst ex
  obtain rfl : u = Value.ref a := rx
  have g' := g
  obtain ⟨xs, k, b, e1, _⟩ := g'
  exact ⟨(nd_typeIs I2 e1).1, n_getItem hu I2 g ry fun w' s3 I3 rw' => ⟨v, H2, I3, rw', q2⟩⟩
theorem pc_nin (hu : X.A.units + 9 < cLine) (hi : PE X i ty) (ho : PE X o td) : PC X .In i o (tNIn X.K ty td) := by
  refine ⟨fun pins s σ H Q I h => ?_⟩
  refine thn (hi.run pins s σ H _ I h) fun iv s1 ⟨y, H1, I1, ry, q1⟩ => thn (ho.run pins s1 σ H1 _ I1 q1) fun u s2 ⟨x, H2, I2, rx, a, ov, ex, g, q2⟩ => ?_
  subst ex
  obtain rfl : u = Value.ref a := rx
  exact n_in hu I2 g ry fun s3 I3 => ⟨.bl ov.isSome, H2, I3, rfl, q2⟩
theorem pc_nnotin (hu : X.A.units + 9 < cLine) (hi : PE X i ty) (ho : PE X o td) : PC X .NotIn i o (tNNotIn X.K ty td) := by
  refine ⟨fun pins s σ H Q I h => ?_⟩
  refine thn (hi.run pins s σ H _ I h) fun iv s1 ⟨y, H1, I1, ry, q1⟩ => thn (ho.run pins s1 σ H1 _ I1 q1) fun u s2 ⟨x, H2, I2, rx, a, ov, ex, g, q2⟩ => ?_
  subst ex
  obtain rfl : u = Value.ref a := rx
  exact n_notIn hu I2 g ry fun s3 I3 => ⟨.bl (!ov.isSome), H2, I3, rfl, q2⟩
theorem ps_nput (hu : X.A.units + 9 < cLine) (ho : PE X o td) (hi : PE X i ty) (hv : PE X value tv) (hs : swapsWith value (some (.Subscript o i pos')) pos.line X.env = pure false) :
    PS X (.Assign [.Subscript o i pos'] value pos) (sNPut X.K td ty tv) := by
  refine ⟨fun pins s σ H D I h => ?_⟩
  refine wpAny_Assign_Subscript (thn (hv.run pins s σ H _ I h) fun r s1 ⟨v, H1, I1, rv, q1⟩ => thn (ho.run pins s1 σ H1 _ I1 q1) fun u s2 ⟨x, H2, I2, rx, q2⟩ => thn (hi.run pins s2 σ H2 _ I2 q2) fun iv s3 ⟨y, H3, I3, ry, a, H4, ex, g, q3⟩ => ?_) hs
  subst ex
  obtain rfl : u = Value.ref a := rx
  exact n_setItem hu I3 g ry rv fun s4 I4 => ⟨σ, H4, I4, q3⟩
theorem pe_nget2 (hu : X.A.units + 9 < cLine) (ho : PE X o td) (he : PE X e ty) (hf : PE X f tx) (m : M2 X o "get" apos e f cpos) : PE X (.Call (.Attribute o "get" apos) [e, f] [] cpos) (tNGet2 X.K td ty tx) := by
  refine ⟨fun pins s σ H Q I h => ?_⟩
  refine wpAny_Call_method m.base m.few m.line PySem.F.plainAttrs_dict PySem.F.slot_dict_get PySem.F.type_dict_get (thn (ho.run pins s σ H _ I h) fun u s1 ⟨x, H1, I1, rx, a, xs, ex, d, q1⟩ => ?_)
  subst ex
  obtain rfl : u = Value.ref a := rx
  obtain ⟨t1, t2, _⟩ := nd_typeIs I1 d
  refine ⟨t1, t2, ?_⟩
  rw [m.trees]
  refine Calls.callWith_builtin rfl (Calls.evalArgs_plain (Calls.spliced_cons (thn (he.run pins s1 σ H1 _ I1 q1) fun iv s2 ⟨y, H2, I2, ry, q2⟩ =>
    Calls.spliced_cons (thn (hf.run pins s2 σ H2 _ I2 q2) fun fv s3 ⟨z, H3, I3, rz, ov, g, q3⟩ => Calls.spliced_nil ?_))))
  exact n_get2 hu I3 g ry rz fun w' s4 I4 rw' => ⟨_, H3, I4, rw', q3⟩
theorem nd_empty {P : Program} {w : World} {H : Hp} (h : Heap) (hb : sysModules < h.objs.size) : ObjOk P w H (h.push { cls := .type "dict", data := .dict #[] }) h.objs.size (NdO h.objs.size []) :=
  nd_new (beq_eq_false_iff_ne.mpr (Ne.symm (Nat.ne_of_lt hb))) (Nat.zero_le _) .nil (fun x hx => by cases hx) (Heap.DictOfH.new h)
theorem pe_dnewN : PE X (.Dict [] [] pos) tDNewN := ⟨fun pins s σ H Q I h =>
  wpAny_Dict_empty ⟨.ref s.heap.objs.size, _, I.laid (a := s.heap.objs.size) (o := NdO s.heap.objs.size []) (t' := s.toks) (fun _ _ q => Heap.get?_push_of_some _ q) (Nat.le_refl _) (nd_empty s.heap I.big), rfl, h _ (I.hok.fresh (Nat.le_refl _))⟩⟩
end
/-- len(d) -/
def rLenN (K : Fg) : List V → Hp → VK → Prop := fun xs H Q => ∃ (p : Addr) (ys : List NdX), xs = [.ref p] ∧ H p = some (NdO p ys) ∧ NKs K H ys ∧ Q (.int ((ys.length : Nat) : Int)) H
theorem call_lenN {X : Cx} : CallR X (.builtin "len") (rLenN X.K) := by
  intro pins s σ H xs us Q I r h
  obtain ⟨p, ys, rfl, hp, hk, q⟩ := h
  obtain ⟨u, rfl, rx⟩ := vals1 r
  obtain rfl : u = .ref p := rx
  obtain ⟨h1, z, us, rel, dd⟩ := nd_of I hp hk
  have hl : ys.length = us.length := Paired.length rel
  refine call_len_dictH h1 dd (by rw [← hl]; rw [sizeLine_eq] at z; omega) ?_
  rw [← hl]
  exact ⟨.int ((ys.length : Nat) : Int), H, I.tok _, ⟨_, rfl⟩, q⟩
/-! sorted(d), its keys pairs of whole numbers -/
def nkP : NestedKey → Int × Int
  | .tup [.num a, .num b] => (a, b)
  | _ => (0, 0)
def isPr : NestedKey → Bool
  | .tup [.num _, .num _] => true
  | _ => false
theorem isPr_eq {k : NestedKey} (h : isPr k = true) : k = .tup [.num (nkP k).1, .num (nkP k).2] := by
  unfold isPr at h
  split at h
  · rfl
  · cases h
theorem perm_of_map {α β : Type} {f : α → β} {l m : List β} (h : l.Perm m) : ∀ xs : List α, m = xs.map f → ∃ ys : List α, ys.Perm xs ∧ l = ys.map f := by
  induction h with
  | nil =>
    intro xs e
    cases xs with
    | nil => exact ⟨[], List.Perm.refl _, rfl⟩
    | cons _ _ => cases e
  | cons x h ih =>
    intro xs e
    cases xs with
    | nil => cases e
    | cons y ys =>
      rw [List.map_cons] at e
      injection e with e1 e2
      obtain ⟨zs, h1, h2⟩ := ih ys e2
      exact ⟨y :: zs, h1.cons y, by rw [List.map_cons, ← h2, e1]⟩
  | swap x y l =>
    intro xs e
    match xs, e with
    | a :: b :: ys, e =>
      rw [List.map_cons, List.map_cons] at e
      injection e with e1 e2
      injection e2 with e2 e3
      exact ⟨b :: a :: ys, .swap _ _ _, by rw [List.map_cons, List.map_cons, ← e3, ← e1, ← e2]⟩
  | trans h1 h2 ih1 ih2 =>
    intro xs e
    obtain ⟨ys, a1, a2⟩ := ih2 xs e
    obtain ⟨zs, b1, b2⟩ := ih1 ys a2
    exact ⟨zs, b1.trans a1, b2⟩
/-- the keys in order, where they stand -/
def rSortN (K : Fg) : List V → Hp → VK → Prop := fun vs H Q => ∃ (a : Addr) (xs : List NdX), vs = [V.ref a] ∧ H a = some (NdO a xs) ∧ NKs K H xs ∧ (∀ x ∈ xs, isPr x.1 = true) ∧
  ∀ (ys : List NdX) (p : Addr), ys.Perm xs → ys.Pairwise (fun x y => SrtO.lexB (nkP y.1) (nkP x.1) = false) → H p = none → Q (.ref p) (upd H p (.lst (ys.map fun x => V.ref x.2.1)))
theorem cr_sortedN {X : Cx} (hc : X.calm = true) : CallR X (.builtin "sorted") (rSortN X.K) := by
  intro pins s σ H vs us Q I r h
  obtain ⟨a, xs, rfl, ha, hk, hp, q⟩ := h
  obtain ⟨u, rfl, rx⟩ := vals1 r
  obtain rfl : u = .ref a := rx
  obtain ⟨h1, h2, ks, rel, dd⟩ := nd_of I ha hk
  obtain ⟨ob, es, ep, ho, hx, hdt, he, his, hn⟩ := dd
  have l1 : es.size = ks.length := size_of_entries he
  have l2 : xs.length = ks.length := Paired.length rel
  refine Calls.call_function_entry PyProof.Rows.kind_sorted PyProof.Rows.plain_sorted PyProof.Rows.entry_sorted (PyProof.Rows.args_sorted1 _) ?_
  unfold Builtin.«sorted»
  refine wpAny_bind (m := checkCount "sorted" 1 1 _) (wpAny_pure ?_)
  refine wpAny_bind (PySem.W.kdu_collect (A := X.A.in1) (kdl_raw h1 hx hdt) (I.ok.hd hc) ho (by omega) fun h' tk acc kp it => ?_)
  have ea : acc.toList = ks.map fun x => Value.ref x.2.1 := by
    have hl : acc.toList.length = ks.length := by rw [Array.length_toList, it.1]; exact l1
    apply List.ext_getElem?
    intro j
    rw [List.getElem?_map]
    cases hj : acc.toList[j]? with
    | none =>
      have h1 := List.getElem?_eq_none_iff.mp hj
      rw [List.getElem?_eq_none (by omega)]
      all_goals rfl
    | some v =>
      obtain ⟨en, hen, hv⟩ := it.2 j v (by rw [← Array.getElem?_toList]; exact hj)
      have qe := entry_at he j
      rw [hen] at qe
      cases hb : ks[j]? with
      | none =>
        rw [hb] at qe
        exact nomatch (show some en = none from qe)
      | some b =>
        rw [hb] at qe
        have e2 : en = entryOfKey (nestedKind X.prog X.w) b := Option.some.inj qe
        rw [hv, e2]
        all_goals rfl
  have ex : acc.toList = xs.map fun x => Value.ref x.2.1 := by
    rw [ea]
    clear q hp hk ha it ea hn his he l1 l2 h2
    induction rel with
    | nil => rfl
    | cons h _ ih => rw [List.map_cons, List.map_cons, ih, h.2.1]
  have I1 : Inv X pins σ H { s with heap := h', toks := tk } := I.kept kp
  have hal : acc.toList.length = xs.length := by rw [ex, List.length_map]
  refine wpAny_bind (wpAny_newList ?_ (by omega))
  have hoL : (h'.push (seqObj "list" acc.toList.toArray 0)).get? h'.objs.size = some (seqObj "list" acc.toList.toArray 0) := Heap.get?_push_size _ rfl
  show wpAny _ _ _ _ _ { s with heap := h'.push (seqObj "list" acc.toList.toArray 0), toks := tk }
  -- the key of a value: of the first that stands there
  have pr : ∀ x ∈ xs, Srt.IsPair h' (Value.ref x.2.1) (nkP x.1).1 (nkP x.1).2 := fun x hx => by
    obtain ⟨_, _, dp⟩ := hk x hx
    rw [isPr_eq (hp x hx)] at dp
    cases dp with
    | tup hq al =>
      rename_i zs
      obtain ⟨its, rv, ⟨o, go, hc, n, hd⟩, _⟩ := I1.tuple hq
      cases al with
      | cons d1 al =>
        cases al with
        | cons d2 al =>
          cases al
          cases d1
          cases d2
          obtain ⟨u1, u2, e, ri, rj⟩ := vals2 rv
          subst e
          obtain ⟨t1, rfl⟩ := ri
          obtain ⟨t2, rfl⟩ := rj
          exact ⟨x.2.1, o, t1, t2, n, rfl, go, hc, by simpa using hd⟩
  let kf : Value → Int × Int := fun v => match xs.find? (fun x => decide (Value.ref x.2.1 = v)) with
    | some x => nkP x.1
    | none => (0, 0)
  have pin : ∀ {v : Value} {i j i' j' : Int}, Srt.IsPair h' v i j → Srt.IsPair h' v i' j' → i = i' ∧ j = j' := by
    rintro v i j i' j' ⟨b, o, t, u, n, rfl, e1, _, e2⟩ ⟨b', o', t', u', n', e, e3, _, e4⟩
    cases e
    rw [e1] at e3
    cases e3
    rw [e2] at e4
    injection e4 with e5 e6
    have e7 := congrArg Array.toList e5
    simp at e7
    exact ⟨e7.1.1, e7.2.1⟩
  have kfe : ∀ x ∈ xs, kf (Value.ref x.2.1) = nkP x.1 := fun x hx => by
    show (match xs.find? (fun y => decide (Value.ref y.2.1 = Value.ref x.2.1)) with | some y => nkP y.1 | none => (0, 0)) = _
    cases z : xs.find? (fun y => decide (Value.ref y.2.1 = Value.ref x.2.1)) with
    | none => exact absurd (List.find?_eq_none.mp z x hx) (by simp)
    | some y =>
      have hy := List.mem_of_find?_eq_some z
      have e := List.find?_some z
      have e' : Value.ref y.2.1 = Value.ref x.2.1 := by simpa using e
      have p1 := pr y hy
      rw [e'] at p1
      obtain ⟨a1, a2⟩ := pin p1 (pr x hx)
      exact Prod.ext a1 a2
  refine wpAny_bind (wpAny_holding (wpAny_call_entry PyProof.Rows.slot_list_sort ⟨_, hoL, rfl⟩ PyProof.Rows.entry_list_sort
    (SrtO.list_sort_ord (ltv := fun v u => SrtO.lexB (kf v) (kf u)) (SrtO.swo_lex kf) hoL (by omega) (fun h2 => SrtO.pairs_sortableO (k := kf) (by omega) (fun v hv => ?_) fun o e => ?_) fun out hs hb => ⟨_, rfl, ?_⟩) (PyProof.Rows.args_list_sort _)))
  · rw [ex] at hv
    obtain ⟨x, hx, rfl⟩ := List.mem_map.mp hv
    rw [kfe x hx]
    exact (pr x hx).keeps fun b o e _ => Heap.get?_push_of_some _ e
  · rw [hoL] at e
    cases e
    intro c
    exact absurd (Value.type.inj c) (by decide)
  · obtain ⟨e', he'⟩ := PyProof.Rows.sortedHeap_at (vs := acc.toList) (out := out.toArray) hoL
    -- back to the pairs
    obtain ⟨ys, hy1, hy2⟩ : ∃ ys : List NdX, ys.Perm xs ∧ out = ys.map fun x => Value.ref x.2.1 := by
      have hpm := hb.perm
      rw [ex] at hpm
      exact perm_of_map hpm xs rfl
    have hlen : (ys.map fun x => V.ref x.2.1).length ≤ sizeLine := by
      rw [List.length_map, hy1.length_eq]; omega
    have hsrt : ys.Pairwise (fun x y => SrtO.lexB (nkP y.1) (nkP x.1) = false) := by
      have hs' : (ys.map fun x => Value.ref x.2.1).Pairwise (fun x y => SrtO.lexB (kf y) (kf x) = false) := by rw [← hy2]; exact hs
      rw [List.pairwise_map] at hs'
      refine List.Pairwise.imp_of_mem ?_ hs'
      intro x y hx hy h
      rw [kfe x (hy1.mem_iff.mp hx), kfe y (hy1.mem_iff.mp hy)] at h
      exact h
    have rvs : Vals (ys.map fun x => V.ref x.2.1) out := by
      rw [hy2]
      clear hy2 hsrt hlen hy1 he' hb hs
      induction ys with
      | nil => exact .nil
      | cons y ys ih => exact .cons rfl ih
    refine wpAny_pure ⟨_, rfl, .ref h'.objs.size, upd H h'.objs.size (.lst (ys.map fun x => V.ref x.2.1)), I1.laid (t' := tk) (fun b u e => ?_) (Nat.le_refl _)
      (show ObjOk X.prog X.w _ _ _ (.lst (ys.map fun x => V.ref x.2.1)) from ⟨hlen, out, e', rvs, he'⟩), rfl, q ys _ hy1 hsrt (I1.hok.fresh (Nat.le_refl _))⟩
    have hb : b < h'.objs.size := Heap.lt_size e
    rw [PyProof.Rows.sortedHeap_old (Nat.ne_of_lt hb) (by rw [size_push']; exact Nat.lt_succ_of_lt hb)]
    exact Heap.get?_push_of_some _ e
end Z
set_option Elab.async false
set_option linter.all false
set_option maxRecDepth 100000
set_option maxHeartbeats 2000000
namespace Z
open PySem L2 PySem.Spec
/-! ### max of a dict's keys -/
open PyProof.Rows in
theorem cr_maxK {X : Cx} (hc : X.calm = true) : CallR X (.builtin "max") (fun xs H Q => ∃ (a : Addr) (kvs : List (Key × V)) (ns : List Int), xs = [.ref a] ∧ Rd H a (.dK kvs) ∧ kvs.map (·.1) = ns.map Sum.inl ∧ 0 < ns.length ∧ ∀ m, m ∈ ns → (∀ y, y ∈ ns → y ≤ m) → Q (.int m) H) := by
  intro pins s σ H xs us Q I r q
  obtain ⟨a, kvs, ns, ex, hd, hks, hne, q⟩ := q
  subst ex
  obtain ⟨u, eu, rx⟩ := vals1 r
  subst eu
  cases rx
  obtain ⟨z, lo, vs, rel, dd⟩ := dk_rd I.hok hd
  obtain ⟨ep, hat⟩ := dd.dictAt
  have hkeys : vs.map (·.1) = ns.map Sum.inl := rel.keys.symm.trans hks
  have hl : vs.length = ns.length := by
    have e := congrArg List.length hkeys
    rw [List.length_map, List.length_map] at e
    exact e
  obtain ⟨oI, St, hit, W, h0⟩ := (PySem.W.kdl_dict (prog := X.prog) (w := X.w) (knd := mixKind X.prog X.w) (kvs := vs) (ep := ep) lo).iter X.A.in1 s (I.ok.hd hc) hat
  have hlt : a < s.heap.objs.size := hat.lt_size
  have hval : ∀ i v, (∃ k x, vs[i]? = some (k, x) ∧ (mixKind X.prog X.w).is k v = true) → ∃ t, v = Value.int (ns.getD i 0) t := fun i v ⟨k, x, e1, e2⟩ => by
    have e3 : (vs.map (·.1))[i]? = some k := by rw [List.getElem?_map, e1]; rfl
    rw [hkeys, List.getElem?_map] at e3
    cases e4 : ns[i]? with
    | none => rw [e4] at e3; cases e3
    | some y =>
      rw [e4] at e3
      have e5 : Sum.inl y = k := Option.some.inj e3
      subst e5
      rcases keyIs_shape (show keyIs (Sum.inl y) v = true from e2) with ⟨i', t, ek, ev⟩ | ⟨z, t, ek, ev⟩
      · cases ek
        rw [List.getD_eq_getElem?_getD, e4]
        exact ⟨t, ev⟩
      · cases ek
  refine call_max_walk (hit _ _ ⟨_, _, _, _, _, _, _, rfl, W, h0, fun b hb => ?_, by rw [hl]; exact hne, CmpOf.ints_gt (fun i => ns.getD i 0) hval, fun v h' tk hP hk => ?_⟩)
  · show b < (s.heap.push oI).objs.size
    rw [Heap.size_push]
    rcases List.mem_cons.mp hb with e | hb
    · rw [e]; exact Nat.lt_succ_self _
    · rw [List.mem_singleton.mp hb]; exact Nat.lt_succ_of_lt hlt
  · obtain ⟨t, rfl⟩ := hval _ _ hP
    have hkp : ∀ b o, s.heap.get? b = some o → h'.get? b = some o := fun b o e => by
      refine hk b o (fun hm => ?_) (Heap.get?_push_of_some _ e)
      have : b = s.heap.objs.size := List.mem_singleton.mp hm
      exact absurd (this ▸ Heap.lt_size e) (Nat.lt_irrefl _)
    obtain ⟨h1, h2⟩ := argBest_gt (fun i => ns.getD i 0) (vs.length - 1)
    refine ⟨.int _, H, I.kept hkp, ⟨t, rfl⟩, q _ ?_ fun y hy => ?_⟩
    · exact PySem.getD_mem (by rw [← hl]; omega)
    · obtain ⟨j, hj, rfl⟩ := mem_getD hy
      exact h2 j (by omega)
/-! ### keys as data -/
mutual
def keq : D → D → Bool
  | .int a, .int b => decide (a = b)
  | .str a, .str b => decide (a = b)
  | .tuple a, .tuple b => keqs a b
  | _, _ => false
def keqs : List D → List D → Bool
  | [], [] => true
  | a :: as, b :: bs => keq a b && keqs as bs
  | _, _ => false
end
mutual
def kyN : D → Bool
  | .int _ => true
  | .tuple xs => kyNs xs
  | _ => false
def kyNs : List D → Bool
  | [] => true
  | a :: as => kyN a && kyNs as
end
mutual
def nkOf : D → NestedKey
  | .int i => .num i
  | .tuple xs => .tup (nkOfs xs)
  | _ => .none
def nkOfs : List D → List NestedKey
  | [] => []
  | a :: as => nkOf a :: nkOfs as
end
def kyOk : Nat → D → Bool
  | 0, .int _ => true
  | 0, .str _ => true
  | 0, _ => false
  | _ + 1, .tuple xs => kyNs xs && decide ((nkOf (.tuple xs)).depth ≤ 8)
  | _ + 1, _ => false
def dget (k : D) : List (D × D) → Option D
  | [] => none
  | (a, d) :: r => if keq a k then some d else dget k r
def dput (k v : D) (l : List (D × D)) : List (D × D) := if (dget k l).isSome then l.map (fun p => if keq p.1 k then (p.1, v) else p) else l ++ [(k, v)]
theorem keq_key (a b : Key) : keq (keyD a) (keyD b) = decide (a = b) := by
  cases a <;> cases b <;> simp [keyD, keq]
mutual
theorem keq_nk : ∀ a b : NestedKey, nkI a = true → nkI b = true → keq (nkD a) (nkD b) = decide (a = b)
  | .num i, .num j, _, _ => by simp [nkD, keq]
  | .num i, .tup ks, _, _ => by simp [nkD, keq]
  | .tup ks, .num j, _, _ => by simp [nkD, keq]
  | .tup ks, .tup ls, h, h' => by
    show keqs (nkDs ks) (nkDs ls) = _
    rw [keqs_nk ks ls h h']
    simp
  | .none, _, h, _ => by cases h
  | .text _, _, h, _ => by cases h
  | .num _, .none, _, h => by cases h
  | .num _, .text _, _, h => by cases h
  | .tup _, .none, _, h => by cases h
  | .tup _, .text _, _, h => by cases h
theorem keqs_nk : ∀ a b : List NestedKey, nkIs a = true → nkIs b = true → keqs (nkDs a) (nkDs b) = decide (a = b)
  | [], [], _, _ => by simp [nkDs, keqs]
  | [], _ :: _, _, _ => by simp [nkDs, keqs]
  | _ :: _, [], _, _ => by simp [nkDs, keqs]
  | a :: as, b :: bs, h, h' => by
    rw [nkIs, Bool.and_eq_true] at h h'
    show (keq (nkD a) (nkD b) && keqs (nkDs as) (nkDs bs)) = _
    rw [keq_nk a b h.1 h'.1, keqs_nk as bs h.2 h'.2]
    simp
end
mutual
theorem nk_of : ∀ d : D, kyN d = true → nkD (nkOf d) = d ∧ nkI (nkOf d) = true
  | .int i, _ => ⟨rfl, rfl⟩
  | .tuple xs, h => by
    obtain ⟨a, b⟩ := nks_of xs (by simpa [kyN] using h)
    exact ⟨by show PyData.tuple (nkDs (nkOfs xs)) = _; rw [a], b⟩
  | .none, h => by simp [kyN] at h
  | .bool _, h => by simp [kyN] at h
  | .str _, h => by simp [kyN] at h
  | .list _, h => by simp [kyN] at h
  | .dict _, h => by simp [kyN] at h
theorem nks_of : ∀ ds : List D, kyNs ds = true → nkDs (nkOfs ds) = ds ∧ nkIs (nkOfs ds) = true
  | [], _ => ⟨rfl, rfl⟩
  | d :: ds, h => by
    rw [kyNs, Bool.and_eq_true] at h
    obtain ⟨a, b⟩ := nk_of d h.1
    obtain ⟨a', b'⟩ := nks_of ds h.2
    exact ⟨by show nkD (nkOf d) :: nkDs (nkOfs ds) = _; rw [a, a'], by show (nkI (nkOf d) && nkIs (nkOfs ds)) = true; rw [b, b']; rfl⟩
end
theorem ky0 {K : Fg} {F : Hp} {v : V} {d : D} (h : Dp K F v d) (k : kyOk 0 d = true) : ∃ x : Key, v = kV x ∧ d = keyD x := by
  cases h with
  | int i => exact ⟨.inl i, rfl, rfl⟩
  | str x => exact ⟨.inr x, rfl, rfl⟩
  | _ => cases k
theorem ky1 {K : Fg} {F : Hp} {n : Nat} {v : V} {d : D} (h : Dp K F v d) (k : kyOk (n + 1) d = true) : ∃ b, v = .ref b ∧ d = nkD (nkOf d) ∧ NK K F (nkOf d) b := by
  cases h with
  | tup hq al =>
    rename_i b xs ds
    have k' : (kyNs ds && decide ((nkOf (.tuple ds)).depth ≤ 8)) = true := k
    rw [Bool.and_eq_true] at k'
    obtain ⟨a1, a2⟩ := nk_of (.tuple ds) (by simpa [kyN] using k'.1)
    exact ⟨b, rfl, a1.symm, a2, of_decide_eq_true k'.2, by rw [a1]; exact .tup hq al⟩
  | _ => cases k
section
variable {K : Fg} {F : Hp}
theorem kvR_get {kvs : List (Key × V)} {ds : List (D × D)} (h : KvR K F keyD kvs ds) (k : Key) : (∃ v d, valV kvs k = some v ∧ dget (keyD k) ds = some d ∧ Dp K F v d) ∨ (valV kvs k = none ∧ dget (keyD k) ds = none) := by
  induction h with
  | nil => exact .inr ⟨rfl, rfl⟩
  | @cons k' v d kvs ds h t ih =>
    by_cases e : k' = k
    · rw [valV_pos (p := (k', v)) e]
      have : dget (keyD k) ((keyD k', d) :: ds) = some d := by unfold dget; rw [keq_key, e]; simp
      rw [this]
      exact .inl ⟨v, d, rfl, rfl, h⟩
    · rw [valV_neg (p := (k', v)) e]
      have : dget (keyD k) ((keyD k', d) :: ds) = dget (keyD k) ds := by conv => lhs; unfold dget
                                                                         rw [keq_key]; simp [e]
      rw [this]
      exact ih
theorem kvR_repl {kvs : List (Key × V)} {ds : List (D × D)} (h : KvR K F keyD kvs ds) (k : Key) {v : V} {d : D} (hv : Dp K F v d) :
    KvR K F keyD (kvs.map fun kv => if kv.1 = k then (kv.1, v) else kv) (ds.map fun p => if keq p.1 (keyD k) then (p.1, d) else p) := by
  induction h with
  | nil => exact .nil
  | @cons k' v' d' kvs ds h t ih =>
    rw [List.map_cons, List.map_cons]
    dsimp only
    rw [keq_key]
    by_cases e : k' = k
    · rw [if_pos e, if_pos (by simp [e])]; exact .cons hv ih
    · rw [if_neg e, if_neg (by simp [e])]; exact .cons h ih
theorem kvR_snoc {kvs : List (Key × V)} {ds : List (D × D)} (h : KvR K F keyD kvs ds) (k : Key) {v : V} {d : D} (hv : Dp K F v d) : KvR K F keyD (kvs ++ [(k, v)]) (ds ++ [(keyD k, d)]) := by
  induction h with
  | nil => exact .cons hv .nil
  | cons h t ih => exact .cons h ih
theorem kvR_put {kvs : List (Key × V)} {ds : List (D × D)} (h : KvR K F keyD kvs ds) (k : Key) {v : V} {d : D} (hv : Dp K F v d) : KvR K F keyD (putK kvs k v) (dput (keyD k) d ds) := by
  unfold putK dput
  rw [valV_any]
  rcases kvR_get h k with ⟨v', d', e1, e2, _⟩ | ⟨e1, e2⟩
  · rw [e1, e2]; exact kvR_repl h k hv
  · rw [e1, e2]; exact kvR_snoc h k hv
theorem kvR_len {κ : Type} {kd : κ → D} {kvs : List (κ × V)} {ds : List (D × D)} (h : KvR K F kd kvs ds) : kvs.length = ds.length := by
  induction h with
  | nil => rfl
  | cons _ _ ih => simp [ih]
theorem knR_nks {xs : List NdX} {ds : List (D × D)} (h : KnR K F xs ds) : NKs K F xs := by
  induction h with
  | nil => exact fun x hx => by cases hx
  | cons h1 h2 h3 h4 t ih =>
    intro x hx
    rcases List.mem_cons.mp hx with rfl | hx
    · exact ⟨h1, h2, h3⟩
    · exact ih x hx
theorem knR_get {xs : List NdX} {ds : List (D × D)} (h : KnR K F xs ds) (k : NestedKey) (hk : nkI k = true) : (∃ v d, nVal xs k = some v ∧ dget (nkD k) ds = some d ∧ Dp K F v d) ∨ (nVal xs k = none ∧ dget (nkD k) ds = none) := by
  induction h with
  | nil => exact .inr ⟨rfl, rfl⟩
  | @cons k' b v d xs ds h1 h2 h3 h4 t ih =>
    have hk' : keq (nkD k') (nkD k) = decide (k' = k) := keq_nk k' k h1 hk
    rw [nVal_cons]
    by_cases e : k' = k
    · rw [if_pos e]
      have : dget (nkD k) ((nkD k', d) :: ds) = some d := by unfold dget; rw [hk', e]; simp
      rw [this]
      exact .inl ⟨v, d, rfl, rfl, h4⟩
    · rw [if_neg e]
      have : dget (nkD k) ((nkD k', d) :: ds) = dget (nkD k) ds := by conv => lhs; unfold dget
                                                                      rw [hk']; simp [e]
      rw [this]
      exact ih
theorem knR_put {xs : List NdX} {ds : List (D × D)} (h : KnR K F xs ds) {k : NestedKey} {b : Addr} (hk : NK K F k b) {v : V} {d : D} (hv : Dp K F v d) : KnR K F (nPut xs k b v) (dput (nkD k) d ds) := by
  unfold nPut dput
  rcases knR_get h k hk.1 with ⟨v', d', e1, e2, _⟩ | ⟨e1, e2⟩
  · rw [e1, e2]
    simp only [Option.isSome_some, if_true]
    clear e1 e2
    induction h with
    | nil => exact .nil
    | @cons k' b' v' d' xs ds h1 h2 h3 h4 t ih =>
      rw [List.map_cons, List.map_cons]
      dsimp only
      rw [keq_nk k' k h1 hk.1]
      by_cases e : k' = k
      · rw [if_pos e, if_pos (by simp [e])]; exact .cons h1 h2 h3 hv ih
      · rw [if_neg e, if_neg (by simp [e])]; exact .cons h1 h2 h3 h4 ih
  · rw [e1, e2]
    simp only [Option.isSome_none, Bool.false_eq_true, if_false]
    clear e1 e2
    induction h with
    | nil => exact .cons hk.1 hk.2.1 hk.2.2 hv .nil
    | cons h1 h2 h3 h4 t ih => exact .cons h1 h2 h3 h4 ih
theorem knR_len {xs : List NdX} {ds : List (D × D)} (h : KnR K F xs ds) : xs.length = ds.length := by
  induction h with
  | nil => rfl
  | cons _ _ _ _ _ ih => simp [ih]
end
section
variable {K : Fg} {c : Ctx} {O Ob O' : List Kd} {F H : Hp} {σ : St} {fps : Nat → List Addr} {ds : DS} {te ta tb tx : TE} {m mk mx : M D} {n i : Nat}
def dctD : D → Option (List (D × D))
  | .dict l => some l
  | _ => none
theorem dc_ow {k : Kd} {v : V} {d : D} {fp : List Addr} (hk : unpm k = .dc n) (h : Ow K F H k v d fp) : ∃ p dk, v = .ref p ∧ d = .dict dk ∧ fp = [p] ∧ DcR K F H n p dk := by
  rw [← ow_unpm, hk] at h
  exact h
theorem ow_dc {k : Kd} {p : Addr} {dk : List (D × D)} (hk : unpm k = .dc n) (h : DcR K F H n p dk) : Ow K F H k (.ref p) (.dict dk) [p] := by
  rw [← ow_unpm, hk]
  exact ⟨p, dk, rfl, rfl, rfl, h⟩
/-- one's own thing of one address is written -/
theorem Rel.mutO (r : Rel K c O F H σ fps ds) {p : Addr} {o : HO} {d d' : D} (hd : ds[i]? = some (some d)) (hv : σ[i]? = some (some (.ref p))) (hp : fps i = [p]) (ow : Ow K F (upd H p o) (O.getD i .sh) (.ref p) d' [p]) :
    Rel K c O F (upd H p o) σ fps (ds.set i (some d')) := by
  have hoff := r.off i p (by rw [hp]; simp)
  have r2 := r.aside i
  have hn : ∀ j, p ∉ (if j = i then [] else fps j) := fun j hj => by
    by_cases z : j = i
    · rw [if_pos z] at hj; cases hj
    · rw [if_neg z] at hj; exact r.dj j i z p hj (by rw [hp]; simp)
  have r3 := r2.updP (p := p) hoff.1 (hoff.2.2.imp id fun z => ⟨_, z.1⟩) hn o
  have r4 := r3.again hv ow (fun q hq => by
    have : q = p := by simpa using hq
    subst this
    exact ⟨hoff.1, by rw [upd_same]; simp, hoff.2.2, fun j hj => hn j⟩) (by simp)
  rw [List.set_set] at r4
  have e : (fun j => if j = i then [p] else if j = i then [] else fps j) = fps := by
    funext j
    by_cases z : j = i
    · rw [if_pos z, z, hp]
    · rw [if_neg z, if_neg z]
  rw [e] at r4
  exact r4
/-- d[k] -/
def dgA (n i : Nat) (k : D) : M D := fun s' => match look s' i with
    | some d => match dctD d with
      | some kvs => if kyOk n k then opt (dget k kvs) s' else .no
      | none => .no
    | none => .no
def mDGet (n i : Nat) (mk : M D) : M D := fun s => match look s i with
  | some _ => bnd mk (dgA n i) s
  | none => .no
theorem d_dget (i : Nat) (hi : unpm (O.getD i .sh) = .dc 0) (he : DE K c O te mk) : DE K c O (tDGet (tVar i) te) (mDGet 0 i mk) := ⟨fun {F H σ fps ds ds' d} r e Q q => by
  unfold mDGet at e
  split at e
  · rename_i d0 hd0
    obtain ⟨k, s1, e1, e⟩ := bnd_ok e
    obtain ⟨w, hw, _⟩ := r.slots i d0 (look_some hd0)
    refine ⟨w, hw, he.run r e1 _ fun F1 H1 fps1 v sF r1 dp => ?_⟩
    unfold dgA at e
    split at e
    · rename_i d1 hd1
      obtain ⟨w1, hw1, ow⟩ := r1.slots i d1 (look_some hd1)
      rw [hw] at hw1
      cases hw1
      obtain ⟨p, dk, rfl, rfl, hf, kvs, hp, kr⟩ := dc_ow hi ow
      dsimp only [dctD] at e
      split at e
      · rename_i hk
        obtain ⟨e, rfl⟩ := opt_ok e
        obtain ⟨x, rfl, rfl⟩ := ky0 dp hk
        rcases kvR_get kr x with ⟨u, d2, g1, g2, g3⟩ | ⟨_, g2⟩
        · rw [g2] at e
          cases e
          exact ⟨p, u, rfl, .inl ⟨kvs, x, .inl hp, rfl, g1.symm⟩, q F1 H1 fps1 u sF r1 g3⟩
        · rw [g2] at e; cases e
      · cases e
    · cases e
  · cases e⟩
theorem d_ngetD (i : Nat) (hi : unpm (O.getD i .sh) = .dc 1) (he : DE K c O te mk) : DE K c O (tNGet K (tVar i) te) (mDGet 1 i mk) := ⟨fun {F H σ fps ds ds' d} r e Q q => by
  unfold mDGet at e
  split at e
  · rename_i d0 hd0
    obtain ⟨k, s1, e1, e⟩ := bnd_ok e
    obtain ⟨w, hw, _⟩ := r.slots i d0 (look_some hd0)
    refine ⟨w, hw, he.run r e1 _ fun F1 H1 fps1 v sF r1 dp => ?_⟩
    unfold dgA at e
    split at e
    · rename_i d1 hd1
      obtain ⟨w1, hw1, ow⟩ := r1.slots i d1 (look_some hd1)
      rw [hw] at hw1
      cases hw1
      obtain ⟨p, dk, rfl, rfl, hf, xs, hp, kr⟩ := dc_ow hi ow
      dsimp only [dctD] at e
      split at e
      · rename_i hk
        obtain ⟨e, rfl⟩ := opt_ok e
        obtain ⟨b, rfl, hd, nk⟩ := ky1 dp hk
        rw [hd] at e
        rcases knR_get kr (nkOf k) nk.1 with ⟨u, d2, g1, g2, g3⟩ | ⟨_, g2⟩
        · rw [g2] at e
          cases e
          exact ⟨p, u, rfl, ⟨xs, nkOf k, b, hp, (knR_nks kr).mono r1.sub, rfl, nk.mono r1.sub, g1.symm⟩, q F1 H1 fps1 u sF r1 g3⟩
        · rw [g2] at e; cases e
      · cases e
    · cases e
  · cases e⟩
/-- d.get(k, x) -/
def dgB (n i : Nat) (k x : D) : M D := fun s' => match look s' i with
    | some d => match dctD d with
      | some kvs => if kyOk n k then .ok ((dget k kvs).getD x) s' else .no
      | none => .no
    | none => .no
def mDGet2 (n i : Nat) (mk mx : M D) : M D := fun s => match look s i with
  | some _ => bnd mk (fun k => bnd mx (dgB n i k)) s
  | none => .no
theorem d_dget2 (i : Nat) (hi : unpm (O.getD i .sh) = .dc 0) (he : DE K c O te mk) (hx : DE K c O tx mx) : DE K c O (tDGet2 (tVar i) te tx) (mDGet2 0 i mk mx) := ⟨fun {F H σ fps ds ds' d} r e Q q => by
  unfold mDGet2 at e
  split at e
  · rename_i d0 hd0
    obtain ⟨k, s1, e1, e⟩ := bnd_ok e
    obtain ⟨x, s2, e2, e⟩ := bnd_ok e
    obtain ⟨w, hw, ow0⟩ := r.slots i d0 (look_some hd0)
    obtain ⟨p, dk0, rfl, rfl, _, kvs0, hp0, _⟩ := dc_ow hi ow0
    refine ⟨_, hw, p, rfl, .inl ⟨kvs0, .inl hp0⟩, he.run r e1 _ fun F1 H1 fps1 v sF r1 dp => hx.run r1 e2 _ fun F2 H2 fps2 vx sF2 r2 dx => ?_⟩
    unfold dgB at e
    split at e
    · rename_i d1 hd1
      obtain ⟨w1, hw1, ow⟩ := r2.slots i d1 (look_some hd1)
      rw [hw] at hw1
      cases hw1
      obtain ⟨p', dk, ep, rfl, hf, kvs, hp, kr⟩ := dc_ow hi ow
      cases ep
      dsimp only [dctD] at e
      split at e
      · rename_i hk
        cases e
        obtain ⟨z, rfl, rfl⟩ := ky0 dp hk
        rcases kvR_get kr z with ⟨u, d2, g1, g2, g3⟩ | ⟨g1, g2⟩
        · rw [g2] at q
          exact ⟨some u, .inl ⟨kvs, z, .inl hp, rfl, g1.symm⟩, q F2 H2 fps2 u (sF.trans sF2) r2 g3⟩
        · rw [g2] at q
          exact ⟨none, .inl ⟨kvs, z, .inl hp, rfl, g1.symm⟩, q F2 H2 fps2 vx (sF.trans sF2) r2 dx⟩
      · cases e
    · cases e
  · cases e⟩
theorem d_nget2 (i : Nat) (hi : unpm (O.getD i .sh) = .dc 1) (he : DE K c O te mk) (hx : DE K c O tx mx) : DE K c O (tNGet2 K (tVar i) te tx) (mDGet2 1 i mk mx) := ⟨fun {F H σ fps ds ds' d} r e Q q => by
  unfold mDGet2 at e
  split at e
  · rename_i d0 hd0
    obtain ⟨k, s1, e1, e⟩ := bnd_ok e
    obtain ⟨x, s2, e2, e⟩ := bnd_ok e
    obtain ⟨w, hw, ow0⟩ := r.slots i d0 (look_some hd0)
    obtain ⟨p, dk0, rfl, rfl, _, xs0, hp0, _⟩ := dc_ow hi ow0
    refine ⟨_, hw, p, xs0, rfl, hp0, he.run r e1 _ fun F1 H1 fps1 v sF r1 dp => hx.run r1 e2 _ fun F2 H2 fps2 vx sF2 r2 dx => ?_⟩
    unfold dgB at e
    split at e
    · rename_i d1 hd1
      obtain ⟨w1, hw1, ow⟩ := r2.slots i d1 (look_some hd1)
      rw [hw] at hw1
      cases hw1
      obtain ⟨p', dk, ep, rfl, hf, xs, hp, kr⟩ := dc_ow hi ow
      cases ep
      dsimp only [dctD] at e
      split at e
      · rename_i hk
        cases e
        obtain ⟨b, rfl, hd, nk⟩ := ky1 dp hk
        have nk2 : NK K F2 (nkOf k) b := nk.mono sF2
        rcases knR_get kr (nkOf k) nk.1 with ⟨u, d2, g1, g2, g3⟩ | ⟨g1, g2⟩
        · rw [← hd] at g2
          rw [g2] at q
          exact ⟨some u, ⟨xs, nkOf k, b, hp, (knR_nks kr).mono r2.sub, rfl, nk2.mono r2.sub, g1.symm⟩, q F2 H2 fps2 u (sF.trans sF2) r2 g3⟩
        · rw [← hd] at g2
          rw [g2] at q
          exact ⟨none, ⟨xs, nkOf k, b, hp, (knR_nks kr).mono r2.sub, rfl, nk2.mono r2.sub, g1.symm⟩, q F2 H2 fps2 vx (sF.trans sF2) r2 dx⟩
      · cases e
    · cases e
  · cases e⟩
/-- k in d, k not in d -/
def mDIn (n i : Nat) (neg : Bool) (mk : M D) : M D := bnd mk fun k => fun s' => match look s' i with
    | some d => match dctD d with
      | some kvs => if kyOk n k then .ok (.bool (if neg then !(dget k kvs).isSome else (dget k kvs).isSome)) s' else .no
      | none => .no
    | none => .no
theorem d_din (i : Nat) (hi : unpm (O.getD i .sh) = .dc 0) (he : DE K c O te mk) : DE K c O (tDIn te (tVar i)) (mDIn 0 i false mk) ∧ DE K c O (tDNotIn te (tVar i)) (mDIn 0 i true mk) := by
  have key : ∀ (neg : Bool) {F H : Hp} {σ : St} {fps : Nat → List Addr} {ds ds' : DS} {d : D}, Rel K c O F H σ fps ds → mDIn 0 i neg mk ds = .ok d ds' → ∀ Q : VK, (∀ F' H' fps' v, Same F F' → Rel K c O F' H' σ fps' ds' → Dp K F' v d → Q v H') →
      te σ H fun y H1 => ∃ x, σ[i]? = some (some x) ∧ ∃ a o, x = .ref a ∧ DGet H1 a y o ∧ Q (.bl (if neg then !o.isSome else o.isSome)) H1 := by
    intro neg F H σ fps ds ds' d r e Q q
    unfold mDIn at e
    obtain ⟨k, s1, e1, e⟩ := bnd_ok e
    refine he.run r e1 _ fun F1 H1 fps1 v sF r1 dp => ?_
    split at e
    · rename_i d1 hd1
      obtain ⟨w1, hw1, ow⟩ := r1.slots i d1 (look_some hd1)
      obtain ⟨p, dk, rfl, rfl, hf, kvs, hp, kr⟩ := dc_ow hi ow
      dsimp only [dctD] at e
      split at e
      · rename_i hk
        cases e
        obtain ⟨x, rfl, rfl⟩ := ky0 dp hk
        rcases kvR_get kr x with ⟨u, d2, g1, g2, g3⟩ | ⟨g1, g2⟩
        · rw [g2] at q
          exact ⟨_, hw1, p, some u, rfl, .inl ⟨kvs, x, .inl hp, rfl, g1.symm⟩, q F1 H1 fps1 _ sF r1 (.bl _)⟩
        · rw [g2] at q
          exact ⟨_, hw1, p, none, rfl, .inl ⟨kvs, x, .inl hp, rfl, g1.symm⟩, q F1 H1 fps1 _ sF r1 (.bl _)⟩
      · cases e
    · cases e
  exact ⟨⟨fun r e Q q => key false r e Q q⟩, ⟨fun r e Q q => key true r e Q q⟩⟩
theorem d_nin (i : Nat) (hi : unpm (O.getD i .sh) = .dc 1) (he : DE K c O te mk) : DE K c O (tNIn K te (tVar i)) (mDIn 1 i false mk) ∧ DE K c O (tNNotIn K te (tVar i)) (mDIn 1 i true mk) := by
  have key : ∀ (neg : Bool) {F H : Hp} {σ : St} {fps : Nat → List Addr} {ds ds' : DS} {d : D}, Rel K c O F H σ fps ds → mDIn 1 i neg mk ds = .ok d ds' → ∀ Q : VK, (∀ F' H' fps' v, Same F F' → Rel K c O F' H' σ fps' ds' → Dp K F' v d → Q v H') →
      te σ H fun y H1 => ∃ x, σ[i]? = some (some x) ∧ ∃ a o, x = .ref a ∧ NGet K H1 a y o ∧ Q (.bl (if neg then !o.isSome else o.isSome)) H1 := by
    intro neg F H σ fps ds ds' d r e Q q
    unfold mDIn at e
    obtain ⟨k, s1, e1, e⟩ := bnd_ok e
    refine he.run r e1 _ fun F1 H1 fps1 v sF r1 dp => ?_
    split at e
    · rename_i d1 hd1
      obtain ⟨w1, hw1, ow⟩ := r1.slots i d1 (look_some hd1)
      obtain ⟨p, dk, rfl, rfl, hf, xs, hp, kr⟩ := dc_ow hi ow
      dsimp only [dctD] at e
      split at e
      · rename_i hk
        cases e
        obtain ⟨b, rfl, hd, nk⟩ := ky1 dp hk
        rcases knR_get kr (nkOf k) nk.1 with ⟨u, d2, g1, g2, g3⟩ | ⟨g1, g2⟩
        · rw [← hd] at g2
          rw [g2] at q
          exact ⟨_, hw1, p, some u, rfl, ⟨xs, nkOf k, b, hp, (knR_nks kr).mono r1.sub, rfl, nk.mono r1.sub, g1.symm⟩, q F1 H1 fps1 _ sF r1 (.bl _)⟩
        · rw [← hd] at g2
          rw [g2] at q
          exact ⟨_, hw1, p, none, rfl, ⟨xs, nkOf k, b, hp, (knR_nks kr).mono r1.sub, rfl, nk.mono r1.sub, g1.symm⟩, q F1 H1 fps1 _ sF r1 (.bl _)⟩
      · cases e
    · cases e
  exact ⟨⟨fun r e Q q => key false r e Q q⟩, ⟨fun r e Q q => key true r e Q q⟩⟩
/-- d[k] = v -/
def sDPutD (n i : Nat) (mk m : M D) : MS := fun s => match m s with
  | .ok v s1 => match look s1 i with
    | some _ => match mk s1 with
      | .ok k s2 => match look s2 i with
        | some d => match dctD d with
          | some kvs => if kyOk n k && decide (kvs.length < sizeLine) then .nx (s2.set i (some (.dict (dput k v kvs)))) else .no
          | none => .no
        | none => .no
      | .no => .no
    | none => .no
  | .no => .no
theorem c_dput (i : Nat) (hi : unpm (O.getD i .sh) = .dc 0) (hm : DE K c O te m) (hk : DE K c O ta mk) : DC K c Ob O (sDPut (tVar i) ta te) (sDPutD 0 i mk m) O := ⟨fun {F H σ fps ds} r E p => by
  unfold sDPutD at p
  cases e : m ds with
  | no => rw [e] at p; exact p.elim
  | ok v s1 =>
    rw [e] at p
    dsimp only at p
    refine hm.run r e _ fun F1 H1 fps1 vv sF r1 dv => ?_
    split at p
    · rename_i d0 hd0
      obtain ⟨w, hw, _⟩ := r1.slots i d0 (look_some hd0)
      refine ⟨w, hw, ?_⟩
      cases e2 : mk s1 with
      | no => rw [e2] at p; exact p.elim
      | ok k s2 =>
        rw [e2] at p
        dsimp only at p
        refine hk.run r1 e2 _ fun F2 H2 fps2 vk sF2 r2 dk => ?_
        split at p
        · rename_i d1 hd1
          obtain ⟨w1, hw1, ow⟩ := r2.slots i d1 (look_some hd1)
          rw [hw] at hw1
          cases hw1
          obtain ⟨a, dk1, rfl, rfl, hf, kvs, hp, kr⟩ := dc_ow hi ow
          dsimp only [dctD] at p
          split at p
          · rename_i hc
            rw [Bool.and_eq_true] at hc
            obtain ⟨x, rfl, rfl⟩ := ky0 dk hc.1
            refine ⟨a, _, rfl, .inl ⟨kvs, x, hp, rfl, by rw [kvR_len kr]; exact of_decide_eq_true hc.2, rfl⟩, ?_⟩
            exact p F2 _ σ fps2 (sF.trans sF2) (r2.mutO (look_some hd1) hw hf (ow_dc hi ⟨_, upd_same, kvR_put kr x (dp_mono sF2 dv)⟩))
          · exact p.elim
        · exact p.elim
    · exact p.elim⟩
theorem c_nput (i : Nat) (hi : unpm (O.getD i .sh) = .dc 1) (hm : DE K c O te m) (hk : DE K c O ta mk) : DC K c Ob O (sNPut K (tVar i) ta te) (sDPutD 1 i mk m) O := ⟨fun {F H σ fps ds} r E p => by
  unfold sDPutD at p
  cases e : m ds with
  | no => rw [e] at p; exact p.elim
  | ok v s1 =>
    rw [e] at p
    dsimp only at p
    refine hm.run r e _ fun F1 H1 fps1 vv sF r1 dv => ?_
    split at p
    · rename_i d0 hd0
      obtain ⟨w, hw, _⟩ := r1.slots i d0 (look_some hd0)
      refine ⟨w, hw, ?_⟩
      cases e2 : mk s1 with
      | no => rw [e2] at p; exact p.elim
      | ok k s2 =>
        rw [e2] at p
        dsimp only at p
        refine hk.run r1 e2 _ fun F2 H2 fps2 vk sF2 r2 dk => ?_
        split at p
        · rename_i d1 hd1
          obtain ⟨w1, hw1, ow⟩ := r2.slots i d1 (look_some hd1)
          rw [hw] at hw1
          cases hw1
          obtain ⟨a, dk1, rfl, rfl, hf, xs, hp, kr⟩ := dc_ow hi ow
          dsimp only [dctD] at p
          split at p
          · rename_i hc
            rw [Bool.and_eq_true] at hc
            obtain ⟨b, rfl, hd, nk⟩ := ky1 dk hc.1
            refine ⟨a, _, rfl, ⟨xs, nkOf k, b, hp, (knR_nks kr).mono r2.sub, rfl, nk.mono r2.sub, by rw [knR_len kr]; exact of_decide_eq_true hc.2, rfl⟩, ?_⟩
            have kp := knR_put kr nk (dp_mono sF2 dv)
            rw [← hd] at kp
            exact p F2 _ σ fps2 (sF.trans sF2) (r2.mutO (look_some hd1) hw hf (ow_dc hi ⟨_, upd_same, kp⟩))
          · exact p.elim
        · exact p.elim
    · exact p.elim⟩
/-- {} -/
def mDNew : M D := fun s => .ok (.dict []) s
theorem o_dnew0 : DO K c O (.dc 0) tDNewK mDNew := ⟨fun {F H σ fps ds ds' d} r e Q q => by
  cases e
  intro p hp
  obtain ⟨h1, h2, h3⟩ := r.fresh hp
  refine q F _ fps (.ref p) [p] (Same.refl _) (r.allocO hp _) ⟨p, [], rfl, rfl, rfl, [], upd_same, .nil⟩ (fun q hq => ?_) (by simp)
  have : q = p := by simpa using hq
  subst this
  exact ⟨h1, by rw [upd_same]; simp, h2, h3⟩⟩
theorem o_dnew1 : DO K c O (.dc 1) tDNewN mDNew := ⟨fun {F H σ fps ds ds' d} r e Q q => by
  cases e
  intro p hp
  obtain ⟨h1, h2, h3⟩ := r.fresh hp
  refine q F _ fps (.ref p) [p] (Same.refl _) (r.allocO hp _) ⟨p, [], rfl, rfl, rfl, [], upd_same, .nil⟩ (fun q hq => ?_) (by simp)
  have : q = p := by simpa using hq
  subst this
  exact ⟨h1, by rw [upd_same]; simp, h2, h3⟩⟩
end
end Z
set_option Elab.async false
set_option linter.all false
set_option maxRecDepth 100000
set_option maxHeartbeats 2000000
namespace Z
open PySem L2 PySem.Spec
/-! ### a dict that is walked -/
def noSd : Kd → Bool
  | .sd => false
  | .ls k => noSd k
  | .pm k => noSd k
  | .of _ k r => noSd k && noSd r
  | .tc k r => noSd k && noSd r
  | .op k => noSd k
  | .hx _ k => noSd k
  | _ => true
section
variable {K : Fg} {F H : Hp} {p : Addr} {od : Obj} {kvs : List (Key × V)} {o : HO}
mutual
theorem dp_unlock (hp : F p = some (.frz od (.dK kvs))) : ∀ {v : V} {d : D}, Dp K F v d → Dp K (minF F [p]) v d
  | _, _, .non => .non
  | _, _, .bl b => .bl b
  | _, _, .int i => .int i
  | _, _, .str x => .str x
  | _, _, .lst (a := a) h r => .lst (by
      rcases h with (h | ⟨o, h⟩) | h
      · have : a ≠ p := fun z => by subst z; rw [hp] at h; cases h
        exact .inl (.inl (by rw [minF_out (by simpa using this)]; exact h))
      · have : a ≠ p := fun z => by subst z; rw [hp] at h; cases h
        exact .inl (.inr ⟨o, by rw [minF_out (by simpa using this)]; exact h⟩)
      · exact .inr h) (dpa_unlock hp r)
  | _, _, .tup (a := a) h r => .tup (by
      rcases h with (h | ⟨o, h⟩) | h
      · have : a ≠ p := fun z => by subst z; rw [hp] at h; cases h
        exact .inl (.inl (by rw [minF_out (by simpa using this)]; exact h))
      · have : a ≠ p := fun z => by subst z; rw [hp] at h; cases h
        exact .inl (.inr ⟨o, by rw [minF_out (by simpa using this)]; exact h⟩)
      · exact .inr h) (dpa_unlock hp r)
theorem dpa_unlock (hp : F p = some (.frz od (.dK kvs))) : ∀ {vs : List V} {ds : List D}, DpAll K F vs ds → DpAll K (minF F [p]) vs ds
  | _, _, .nil => .nil
  | _, _, .cons h r => .cons (dp_unlock hp h) (dpa_unlock hp r)
end
theorem kvR_unlock {κ : Type} {kd : κ → D} (hp : F p = some (.frz od (.dK kvs))) : ∀ {ks : List (κ × V)} {ds : List (D × D)}, KvR K F kd ks ds → KvR K (minF F [p]) kd ks ds
  | _, _, .nil => .nil
  | _, _, .cons h t => .cons (dp_unlock hp h) (kvR_unlock hp t)
theorem knR_unlock (hp : F p = some (.frz od (.dK kvs))) : ∀ {xs : List NdX} {ds : List (D × D)}, KnR K F xs ds → KnR K (minF F [p]) xs ds
  | _, _, .nil => .nil
  | _, _, .cons h1 h2 h3 h4 t => .cons h1 h2 (dp_unlock hp h3) (dp_unlock hp h4) (knR_unlock hp t)
theorem ow2_unlock (hp : F p = some (.frz od (.dK kvs))) : ∀ k : Kd, noSd k = true → (∀ v d fp, (Ow2 K F H k).a v d fp → p ∉ fp → (Ow2 K (minF F [p]) (upd H p o) k).a v d fp) ∧
    (∀ g v d fp, (Ow2 K F H k).f g v d fp → p ∉ fp → (Ow2 K (minF F [p]) (upd H p o) k).f g v d fp) ∧ (Ow2 K F H k).c = (Ow2 K (minF F [p]) (upd H p o) k).c ∧
    (∀ xs ds fs, (Ow2 K F H k).t xs ds fs → (∀ f ∈ fs, p ∉ f) → (Ow2 K (minF F [p]) (upd H p o) k).t xs ds fs) := by
  intro k
  have sh : ∀ v d fp, ShO K F v d fp → p ∉ fp → ShO K (minF F [p]) v d fp := fun v d fp h _ => ⟨h.1, dp_unlock hp h.2⟩
  have no : ∀ xs ds fs, False → (∀ f ∈ fs, p ∉ f) → False := fun (_ : List V) (_ : List D) (_ : List (List Addr)) h _ => h
  have keep : ∀ {fp : List Addr}, p ∉ fp → ∀ q ∈ fp, upd H p o q = H q := fun h q hq => upd_ne fun z => h (z ▸ hq)
  induction k with
  | sh => exact fun _ => ⟨sh, fun _ => sh, rfl, no⟩
  | ls k ih =>
    intro hs
    refine ⟨fun v d fp h g => ?_, fun _ => sh, rfl, no⟩
    obtain ⟨q, xs, ds, fs, rfl, rfl, hq, rfl, al⟩ := h
    exact ⟨q, xs, ds, fs, rfl, rfl, by rw [keep g q (by simp)]; exact hq, rfl, al.imp fun a b c hc o => (ih hs).1 a b c o fun z => g (List.mem_cons_of_mem _ (List.mem_flatten.mpr ⟨c, hc, z⟩))⟩
  | pm k ih => exact fun hs => ⟨(ih hs).1, fun _ => sh, rfl, no⟩
  | dc n =>
    refine fun _ => ⟨fun v d fp h g => ?_, fun _ => sh, rfl, no⟩
    obtain ⟨q, dk, rfl, rfl, rfl, h⟩ := h
    refine ⟨q, dk, rfl, rfl, rfl, ?_⟩
    have hq : upd H p o q = H q := keep g q (by simp)
    cases n with
    | zero =>
      obtain ⟨ks, a, b⟩ := h
      exact ⟨ks, hq.trans a, kvR_unlock hp b⟩
    | succ n =>
      obtain ⟨xs, a, b⟩ := h
      exact ⟨xs, hq.trans a, knR_unlock hp b⟩
  | oe cs =>
    refine fun _ => ⟨fun v d fp h g => obO_mono h (keep g) fun f v d fp' hs hr => ⟨hr.1, dp_unlock hp hr.2⟩, fun _ => sh, rfl, no⟩
  | of f k r ih1 ih2 =>
    intro hs
    have hs' : (noSd k && noSd r) = true := hs
    rw [Bool.and_eq_true] at hs'
    have i1 := ih1 hs'.1
    have i2 := ih2 hs'.2
    have key : ∀ g v d fp, (if g = f then (Ow2 K F H k).a else (Ow2 K F H r).f g) v d fp → p ∉ fp → (if g = f then (Ow2 K (minF F [p]) (upd H p o) k).a else (Ow2 K (minF F [p]) (upd H p o) r).f g) v d fp := fun g v d fp h hq => by
      by_cases z : g = f
      · rw [if_pos z] at h ⊢; exact i1.1 v d fp h hq
      · rw [if_neg z] at h ⊢; exact i2.2.1 g v d fp h hq
    refine ⟨fun v d fp h g => ?_, key, i2.2.2.1, no⟩
    have h' : ObO H (fun g => if g = f then (Ow2 K F H k).a else (Ow2 K F H r).f g) (Ow2 K F H r).c v d fp := h
    rw [i2.2.2.1] at h'
    exact obO_mono h' (keep g) fun f v d fp' hs hr => key f v d fp' hr fun z => g (hs p z)
  | te => exact fun _ => ⟨fun v d fp h g => tpO_mono h (keep g) fun _ _ _ _ z => z, fun _ => sh, rfl, fun _ _ _ z _ => z⟩
  | tc k r ih1 ih2 =>
    intro hs
    have hs' : (noSd k && noSd r) = true := hs
    rw [Bool.and_eq_true] at hs'
    have i1 := ih1 hs'.1
    have i2 := ih2 hs'.2
    have key : ∀ xs ds fs, TcR (Ow2 K F H k).a (Ow2 K F H r).t xs ds fs → (∀ f ∈ fs, p ∉ f) → TcR (Ow2 K (minF F [p]) (upd H p o) k).a (Ow2 K (minF F [p]) (upd H p o) r).t xs ds fs := fun xs ds fs h g => by
      obtain ⟨x, d, f, xr, dr, fr, rfl, rfl, rfl, h1, h2⟩ := h
      exact ⟨x, d, f, xr, dr, fr, rfl, rfl, rfl, i1.1 x d f h1 (g f (by simp)), i2.2.2.2 xr dr fr h2 fun f' hf => g f' (by simp [hf])⟩
    exact ⟨fun v d fp h g => tpO_mono h (keep g) fun xs ds fs hs z => key xs ds fs z fun f hf z => g (hs f hf p z), fun _ => sh, rfl, key⟩
  | op k ih => exact fun hs => ⟨fun v d fp h g => h.imp id fun z => (ih hs).1 v d fp z g, fun _ => sh, rfl, no⟩
  | xr a => exact fun _ => ⟨fun v d fp h _ => h, fun _ => sh, rfl, no⟩
  | hx a k ih => exact fun hs => ⟨fun v d fp h g => h.imp id fun z => (ih hs).1 v d fp z g, fun _ => sh, rfl, no⟩
  | sd => exact fun hs => by cases hs
theorem ow_unlock (hp : F p = some (.frz od (.dK kvs))) {k : Kd} (hk : noSd k = true) {v : V} {d : D} {fp : List Addr} (h : Ow K F H k v d fp) (hn : p ∉ fp) : Ow K (minF F [p]) (upd H p o) k v d fp := (ow2_unlock hp k hk).1 v d fp h hn
end
section
variable {K : Fg} {c : Ctx} {O Ob O' : List Kd} {F H : Hp} {σ : L2.St} {fps : Nat → List Addr} {ds : DS} {te ta tb tx : TE} {m mk mx : M D} {n i : Nat} {t : TS} {b : MS}
theorem sd_ow {k : Kd} {v : V} {d : D} {fp : List Addr} (hk : unpm k = .sd) (h : Ow K F H k v d fp) : ∃ p dk o, ∃ kvs : List (Key × V), v = .ref p ∧ d = .dict dk ∧ fp = [] ∧ F p = some (.frz o (.dK kvs)) ∧ KvR K F keyD kvs dk := by
  rw [← ow_unpm, hk] at h
  obtain ⟨h1, p, dk, o, kvs, h2, h3, h4, h5⟩ := h
  exact ⟨p, dk, o, kvs, h2, h3, h1, h4, h5⟩
/-- the keys of a dict that is walked -/
def mKeysS (i : Nat) : M (List D) := fun s => match look s i with
  | some d => match dctD d with
    | some kvs => .ok (kvs.map (·.1)) s
    | none => .no
  | none => .no
theorem kvR_keys {kvs : List (Key × V)} {dk : List (D × D)} (h : KvR K F keyD kvs dk) : ∀ {i : Nat} {d : D}, (dk.map (·.1))[i]? = some d → ∃ k v, kvs[i]? = some (k, v) ∧ d = keyD k := by
  induction h with
  | nil => intro i d e; simp at e
  | @cons k v d' kvs ds h t ih =>
    intro i d e
    cases i with
    | zero => simp at e; exact ⟨k, v, rfl, e.symm⟩
    | succ i => simpa using ih (i := i) (by simpa using e)
theorem dp_key (k : Key) : Dp K F (kV k) (keyD k) := by cases k <;> constructor
theorem i_keys (i : Nat) (hi : unpm (O.getD i .sh) = .sd) : DI K c O (iKeys (tVar i)) (mKeysS i) := ⟨fun {F H σ fps ds ds' xs} r e R q => by
  unfold mKeysS at e
  split at e
  · rename_i d0 hd0
    obtain ⟨w, hw, ow⟩ := r.slots i d0 (look_some hd0)
    obtain ⟨p, dk, o, kvs, rfl, rfl, _, hp, kr⟩ := sd_ow hi ow
    dsimp only [dctD] at e
    cases e
    refine ⟨_, hw, p, o, rfl, .inl ⟨kvs, r.sub _ _ hp, q F H fps _ (Same.refl _) r ?_⟩⟩
    intro F1 H1 j s1 s2
    have hp1 : H1 p = some (.frz o (.dK kvs)) := s2 _ _ (s1 _ _ hp)
    have hl := kvR_len kr
    refine ⟨fun d hd => ?_, fun hj => ⟨hp1, by rw [hl]; rw [List.length_map] at hj; omega⟩⟩
    obtain ⟨k, v, hk, rfl⟩ := kvR_keys kr hd
    refine ⟨⟨hp1, (List.getElem?_eq_some_iff.mp hk).1⟩, fun x H2 hy => ?_⟩
    obtain ⟨rfl, k', v', hk', rfl⟩ := hy
    rw [hk] at hk'
    cases hk'
    exact ⟨F1, .refl, dp_key k⟩
  · cases e⟩
/-- d[k] of a dict that is walked -/
theorem d_dgetS (i : Nat) (hi : unpm (O.getD i .sh) = .sd) (he : DE K c O te mk) : DE K c O (tDGet (tVar i) te) (mDGet 0 i mk) := ⟨fun {F H σ fps ds ds' d} r e Q q => by
  unfold mDGet at e
  split at e
  · rename_i d0 hd0
    obtain ⟨k, s1, e1, e⟩ := bnd_ok e
    obtain ⟨w, hw, _⟩ := r.slots i d0 (look_some hd0)
    refine ⟨w, hw, he.run r e1 _ fun F1 H1 fps1 v sF r1 dp => ?_⟩
    unfold dgA at e
    split at e
    · rename_i d1 hd1
      obtain ⟨w1, hw1, ow⟩ := r1.slots i d1 (look_some hd1)
      rw [hw] at hw1
      cases hw1
      obtain ⟨p, dk, o, kvs, rfl, rfl, _, hp, kr⟩ := sd_ow hi ow
      dsimp only [dctD] at e
      split at e
      · rename_i hk
        obtain ⟨e, rfl⟩ := opt_ok e
        obtain ⟨x, rfl, rfl⟩ := ky0 dp hk
        rcases kvR_get kr x with ⟨u, d2, g1, g2, g3⟩ | ⟨_, g2⟩
        · rw [g2] at e
          cases e
          exact ⟨p, u, rfl, .inl ⟨kvs, x, .inr ⟨o, r1.sub _ _ hp⟩, rfl, g1.symm⟩, q F1 H1 fps1 u sF r1 g3⟩
        · rw [g2] at e; cases e
      · cases e
    · cases e
  · cases e⟩
def sLock (i : Nat) (b : MS) : MS := fun s => match look s i with
  | some d => match dctD d with
    | some _ => match b s with
      | .nx s' => match look s' i with
        | some _ => .nx s'
        | none => .no
      | _ => .no
    | none => .no
  | none => .no
theorem c_lockD (i : Nat) (hk : O[i]? = some (.dc 0)) (hs : O.all noSd = true) (hb : ∀ c' : Ctx, c'.ps = c.ps → c'.rk = c.rk → c'.mg = c.mg → DC K c' [] (O.set i (.pm .sd)) t b (O.set i (.pm .sd))) : DC K c Ob O (tLock t) (sLock i b) O := ⟨fun {F H σ fps ds} r E P => by
  unfold sLock at P
  have hi : i < O.length := (List.getElem?_eq_some_iff.mp hk).1
  have hgd : O.getD i .sh = .dc 0 := by rw [List.getD_eq_getElem?_getD, hk]; rfl
  split at P
  · rename_i d0 hd0
    obtain ⟨w, hw, ow⟩ := r.slots i d0 (look_some hd0)
    rw [hgd] at ow
    obtain ⟨p, dk, rfl, rfl, hf, kvs, hp, kr⟩ := ow
    dsimp only [dctD] at P
    refine ⟨p, .dK kvs, hp, True.intro, fun od => ?_⟩
    have hoff := r.off i p (by rw [hf]; simp)
    have hF : F p = none := hoff.1
    have h0 : c.H0 p = none := by
      rcases hoff.2.2 with h | ⟨_, h⟩
      · exact h
      · rw [hk] at h; cases h
    have hF0 : c.F0 p = none := by
      cases z : c.F0 p with
      | none => rfl
      | some o => have := r.base p o z; rw [hF] at this; cases this
    have sF : Same F (upd F p (.frz od (.dK kvs))) := same_upd hF
    have hpk : c.pk i = none := by
      cases z : c.pk i with
      | none => rfl
      | some k => have := (r.par i k z).1; rw [hk] at this; cases this
    let c' : Ctx := { c with pk := fun j => if j = i then some .sd else c.pk j, arg := fun j => if j = i then .ref p else c.arg j }
    have dis : ∀ j, j ≠ i → ∀ q ∈ fps j, q ≠ p := fun j hj q hq z => by subst z; exact r.dj j i hj q hq (by rw [hf]; simp)
    have r1 : Rel K c' (O.set i (.pm .sd)) (upd F p (.frz od (.dK kvs))) (upd H p (.frz od (.dK kvs))) σ (asd fps i) ds := by
      refine ⟨fun b o e => ?_, r.base.trans sF, fun b o e n => ?_, fun b e => ?_, fun b o e => ?_, fun j d hj => ?_, fun j q hq => ?_, fun j => ?_, fun j l hjl q hq hq' => r.dj j l hjl q (asd_sub hq).2 (asd_sub hq').2, fun j k hj => ?_, r.len⟩
      · by_cases z : b = p
        · subst z; rw [upd_same] at e ⊢; exact e
        · rw [upd_ne z] at e ⊢; exact r.sub b o e
      · have z : b ≠ p := fun z => by subst z; have e : c.H0 b = some o := e; rw [h0] at e; cases e
        rw [upd_ne z]; exact r.keep b o e n
      · by_cases z : b = p
        · subst z; exact h0
        · rw [upd_ne z] at e; exact r.live b e
      · by_cases z : b = p
        · subst z; exact .inr h0
        · rw [upd_ne z] at e; exact r.new b o e
      · by_cases z : j = i
        · subst z
          rw [look_some hd0] at hj
          cases hj
          refine ⟨_, hw, ?_⟩
          rw [getD_set_eq hi]
          exact ⟨if_pos rfl, p, dk, od, kvs, rfl, rfl, upd_same, kvR_mono sF kr⟩
        · obtain ⟨u, hu, ow⟩ := r.slots j d hj
          refine ⟨u, hu, ?_⟩
          rw [getD_set_ne z]
          have : asd fps i j = fps j := if_neg z
          rw [this]
          exact ow_mono sF ow fun q hq => upd_ne (dis j z q hq)
      · obtain ⟨z, hq⟩ := asd_sub hq
        obtain ⟨a1, a2, a3⟩ := r.off j q hq
        rw [upd_ne (dis j z q hq), upd_ne (dis j z q hq), List.getElem?_set_ne (Ne.symm z)]
        exact ⟨a1, a2, a3⟩
      · unfold asd
        by_cases z : j = i
        · rw [if_pos z]; simp
        · rw [if_neg z]; exact r.nd j
      · have hj : (if j = i then some Kd.sd else c.pk j) = some k := hj
        by_cases z : j = i
        · subst z
          rw [if_pos rfl] at hj
          cases hj
          refine ⟨by rw [List.getElem?_set_self hi], ?_⟩
          rw [hw]
          show _ = some (some (if j = j then V.ref p else c.arg j))
          rw [if_pos rfl]
        · rw [if_neg z] at hj
          obtain ⟨a1, a2⟩ := r.par j k hj
          refine ⟨by rw [List.getElem?_set_ne (Ne.symm z)]; exact a1, ?_⟩
          rw [a2]
          show _ = some (some (if j = i then V.ref p else c.arg j))
          rw [if_neg z]
    refine (hb c' rfl rfl rfl).run r1 _ ?_
    cases eb : b ds with
    | nx s' =>
      rw [eb] at P
      dsimp only at P
      split at P
      · rename_i d2 hd2
        refine fun F2 H2 σ2 fps2 sF2 r2 => ?_
        have hp2 : F2 p = some (.frz od (.dK kvs)) := sF2 _ _ upd_same
        refine ⟨r2.sub _ _ hp2, ?_⟩
        have hp' : p ∉ [] := by simp
        have mF : ∀ b, b ≠ p → minF F2 [p] b = F2 b := fun b z => minF_out (by simpa using z)
        have nq : ∀ j q, q ∈ fps2 j → q ≠ p := fun j q hq z => by subst z; have := (r2.off j q hq).1; rw [hp2] at this; cases this
        obtain ⟨u2, hu2, ow2⟩ := r2.slots i d2 (look_some hd2)
        rw [getD_set_eq hi] at ow2
        obtain ⟨p3, dk3, o3, kvs3, ev, rfl, hfi, hp3, kr3⟩ := sd_ow rfl ow2
        have epv := (r2.par i .sd (show (if i = i then some Kd.sd else c.pk i) = some .sd from if_pos rfl)).2
        have epv : σ2[i]? = some (some (.ref p)) := by
          rw [epv]
          show some (some (if i = i then V.ref p else c.arg i)) = _
          rw [if_pos rfl]
        rw [hu2] at epv
        cases epv
        cases ev
        rw [hp2] at hp3
        cases hp3
        have sFF : Same F (minF F2 [p]) := fun b o e => by
          have z : b ≠ p := fun z => by subst z; rw [hF] at e; cases e
          rw [mF b z]
          exact sF2 b o (by rw [upd_ne z]; exact e)
        refine P (minF F2 [p]) _ σ2 (fun j => if j = i then [p] else fps2 j) sFF ⟨fun b o e => ?_, r.base.trans sFF, fun b o e n => ?_, fun b e => ?_, fun b o e => ?_, fun j d hj => ?_, fun j q hq => ?_, fun j => ?_, fun j l hjl q hq hq' => ?_, fun j k hj => ?_, r2.len⟩
        · have z : b ≠ p := fun z => by subst z; rw [minF_in (by simp)] at e; cases e
          rw [mF b z] at e
          rw [upd_ne z]; exact r2.sub b o e
        · have z : b ≠ p := fun z => by subst z; rw [h0] at e; cases e
          rw [upd_ne z]; exact r2.keep b o e n
        · by_cases z : b = p
          · subst z; exact h0
          · rw [upd_ne z] at e; exact r2.live b e
        · have z : b ≠ p := fun z => by subst z; rw [minF_in (by simp)] at e; cases e
          rw [mF b z] at e
          exact r2.new b o e
        · by_cases z : j = i
          · subst z
            rw [look_some hd2] at hj
            cases hj
            refine ⟨_, hu2, ?_⟩
            rw [hgd, if_pos rfl]
            exact ⟨p, dk3, rfl, rfl, rfl, kvs, upd_same, kvR_unlock hp2 kr3⟩
          · obtain ⟨u, hu, ow⟩ := r2.slots j d hj
            refine ⟨u, hu, ?_⟩
            rw [getD_set_ne z] at ow
            rw [if_neg z]
            refine ow_unlock hp2 ?_ ow fun hq => nq j p hq rfl
            rw [List.getD_eq_getElem?_getD]
            cases y : O[j]? with
            | none => rfl
            | some k => exact List.all_eq_true.mp hs k (List.mem_of_getElem? y)
        · by_cases z : j = i
          · subst z
            rw [if_pos rfl] at hq
            have : q = p := by simpa using hq
            subst this
            exact ⟨minF_in (by simp), by rw [upd_same]; simp, .inl h0⟩
          · rw [if_neg z] at hq
            have zq := nq j q hq
            obtain ⟨a1, a2, a3⟩ := r2.off j q hq
            rw [List.getElem?_set_ne (Ne.symm z)] at a3
            exact ⟨by rw [mF q zq]; exact a1, by rw [upd_ne zq]; exact a2, a3⟩
        · by_cases z : j = i
          · simp only [if_pos z]; simp
          · simp only [if_neg z]; exact r2.nd j
        · by_cases z : j = i
          · by_cases z' : l = i
            · exact hjl (z.trans z'.symm)
            · simp only [if_pos z] at hq
              simp only [if_neg z'] at hq'
              have : q = p := by simpa using hq
              exact nq l q hq' this
          · simp only [if_neg z] at hq
            by_cases z' : l = i
            · simp only [if_pos z'] at hq'
              have : q = p := by simpa using hq'
              exact nq j q hq this
            · simp only [if_neg z'] at hq'
              exact r2.dj j l hjl q hq hq'
        · have z : j ≠ i := fun z => by subst z; rw [hpk] at hj; cases hj
          obtain ⟨a1, a2⟩ := r2.par j k (show (if j = i then some Kd.sd else c.pk j) = some k by rw [if_neg z]; exact hj)
          rw [List.getElem?_set_ne (Ne.symm z)] at a1
          refine ⟨a1, ?_⟩
          rw [a2]
          show some (some (if j = i then V.ref p else c.arg j)) = _
          rw [if_neg z]
      · exact P.elim
    | bk s' => rw [eb] at P; exact P.elim
    | ct s' => rw [eb] at P; exact P.elim
    | rt d s' => rw [eb] at P; exact P.elim
    | ex x s' => rw [eb] at P; exact P.elim
    | no => rw [eb] at P; exact P.elim
  · exact P.elim⟩
/-! ### displays, max, len, sorted -/
inductive PrOk (K : Fg) (O : List Kd) : List (TE × TE) → List (M D × M D) → Prop
  | nil : PrOk K O [] []
  | cons {tk tv : TE} {mk mv : M D} {ts : List (TE × TE)} {ms : List (M D × M D)} : (∀ c, DE K c O tk mk) → (∀ c, DE K c O tv mv) → PrOk K O ts ms → PrOk K O ((tk, tv) :: ts) ((mk, mv) :: ms)
def mPrs : List (M D × M D) → M (List (D × D))
  | [] => fun s => .ok [] s
  | (mk, mv) :: r => bnd mk fun k => bnd mv fun v => bnd (mPrs r) fun l => fun s => .ok ((k, v) :: l) s
def prsOk (l : List (D × D)) : Bool := l.all (fun p => kyOk 0 p.1) && decide (l.length ≤ 15)
def mDisp (ms : List (M D × M D)) : M D := bnd (mPrs ms) fun l => opt (if prsOk l then some (.dict (l.foldl (fun a p => dput p.1 p.2 a) [])) else none)
theorem prs_run {ts : List (TE × TE)} {ms : List (M D × M D)} (h : PrOk K O ts ms) : ∀ {F H : Hp} {σ : L2.St} {fps : Nat → List Addr} {ds ds' : DS} {l : List (D × D)}, Rel K c O F H σ fps ds → mPrs ms ds = .ok l ds' → l.all (fun p => kyOk 0 p.1) = true → ∀ Q : List (V × V) → Hp → Prop,
    (∀ F' H' fps' kvs, Same F F' → Rel K c O F' H' σ fps' ds' → KvR K F' keyD kvs l → Q (kvs.map fun kv => (kV kv.1, kv.2)) H') → tPairs ts σ H Q := by
  induction h with
  | nil =>
    intro F H σ fps ds ds' l r e _ Q q
    cases e
    exact q F H fps [] (Same.refl _) r .nil
  | cons hk hv t ih =>
    intro F H σ fps ds ds' l r e hl Q q
    obtain ⟨k, s1, e1, e⟩ := bnd_ok e
    obtain ⟨v, s2, e2, e⟩ := bnd_ok e
    obtain ⟨l', s3, e3, e⟩ := bnd_ok e
    cases e
    rw [List.all_cons, Bool.and_eq_true] at hl
    refine (hk c).run r e1 _ fun F1 H1 fps1 vk sF1 r1 dk => (hv c).run r1 e2 _ fun F2 H2 fps2 vv sF2 r2 dv => ih r2 e3 hl.2 _ fun F3 H3 fps3 kvs sF3 r3 kr => ?_
    obtain ⟨x, rfl, rfl⟩ := ky0 dk hl.1
    exact q F3 H3 fps3 ((x, vv) :: kvs) ((sF1.trans sF2).trans sF3) r3 (.cons (dp_mono sF3 dv) kr)
theorem kvR_merge {more : List (Key × V)} {l : List (D × D)} (h : KvR K F keyD more l) : ∀ {kvs : List (Key × V)} {dk : List (D × D)}, KvR K F keyD kvs dk → KvR K F keyD (mergeK kvs more) (l.foldl (fun a p => dput p.1 p.2 a) dk) := by
  induction h with
  | nil => exact fun r => r
  | @cons k v d kvs ds h t ih =>
    intro kvs' dk r
    exact ih (kvR_put r k h)
theorem o_disp {ts : List (TE × TE)} {ms : List (M D × M D)} (h : PrOk K O ts ms) : DO K c O (.dc 0) (tDisp ts) (mDisp ms) := ⟨fun {F H σ fps ds ds' d} r e Q q => by
  obtain ⟨l, s1, e1, e⟩ := bnd_ok e
  obtain ⟨e, rfl⟩ := opt_ok e
  split at e
  · rename_i hl
    cases e
    unfold prsOk at hl
    rw [Bool.and_eq_true] at hl
    intro p hp
    obtain ⟨h1, h2, h3⟩ := r.fresh hp
    have ra : Rel K c O F (upd H p (.dK [])) σ fps ds := r.allocO hp _
    refine prs_run (c := c.from O F (upd H p (.dK [])) fps) h ra.focus e1 hl.1 _ fun F2 H2 fps2 kvs sF r2 kr => ?_
    obtain ⟨g1, g2, g3⟩ := r2.out (q := p) h1 (by rw [upd_same]; simp) h3
    rw [upd_same] at g1
    refine ⟨g1, kvs, rfl, by rw [kvR_len kr]; exact of_decide_eq_true hl.2, ?_⟩
    have ru := ra.unfocus r2
    have rw' := ru.updO (p := p) g2 h2 g3 (.dK (mergeK [] kvs))
    refine q F2 _ fps2 (.ref p) [p] sF rw' ⟨p, _, rfl, rfl, rfl, _, upd_same, kvR_merge kr .nil⟩ (fun q hq => ?_) (by simp)
    have : q = p := by simpa using hq
    subst this
    exact ⟨g2, by rw [upd_same]; simp, h2, g3⟩
  · cases e⟩
/-- max(d), its keys whole numbers -/
def kIntsD : List (D × D) → Option (List Int)
  | [] => some []
  | (.int i, _) :: r => (kIntsD r).map (i :: ·)
  | _ :: _ => none
def maxL : List Int → Option Int
  | [] => none
  | a :: r => some (r.foldl max a)
def mMaxD (i : Nat) : M D := fun s => match look s i with
  | some d => match dctD d with
    | some kvs => match kIntsD kvs with
      | some ns => opt ((maxL ns).map .int) s
      | none => .no
    | none => .no
  | none => .no
theorem foldl_max (l : List Int) : ∀ a : Int, a ≤ l.foldl max a ∧ (∀ y ∈ l, y ≤ l.foldl max a) ∧ (l.foldl max a = a ∨ l.foldl max a ∈ l) := by
  induction l with
  | nil => exact fun a => ⟨Int.le_refl _, fun y hy => absurd hy (by simp), Or.inl rfl⟩
  | cons b l ih =>
    intro a
    obtain ⟨h1, h2, h3⟩ := ih (max a b)
    have e : (b :: l).foldl max a = l.foldl max (max a b) := rfl
    rw [e]
    refine ⟨by omega, fun y hy => ?_, ?_⟩
    · rcases List.mem_cons.mp hy with rfl | hy
      · omega
      · exact h2 y hy
    · rcases h3 with h | h
      · rw [h]
        rcases Int.le_total a b with z | z
        · right; rw [Int.max_eq_right z]; simp
        · left; exact Int.max_eq_left z
      · right; exact List.mem_cons_of_mem _ h
theorem kvR_ints {kvs : List (Key × V)} {dk : List (D × D)} (h : KvR K F keyD kvs dk) : ∀ {ns : List Int}, kIntsD dk = some ns → kvs.map (·.1) = ns.map Sum.inl := by
  induction h with
  | nil => intro ns e; cases e; rfl
  | @cons k v d kvs ds h t ih =>
    intro ns e
    cases k with
    | inr x => cases e
    | inl i =>
      have e : (kIntsD ds).map (i :: ·) = some ns := e
      cases z : kIntsD ds with
      | none => rw [z] at e; cases e
      | some ms =>
        rw [z] at e
        cases e
        rw [List.map_cons, List.map_cons, ih z]
theorem d_maxD (i : Nat) (hi : unpm (O.getD i .sh) = .dc 0) : DE K c O (tCB (fun xs H Q => ∃ (a : Addr) (kvs : List (Key × V)) (ns : List Int), xs = [.ref a] ∧ Rd H a (.dK kvs) ∧ kvs.map (·.1) = ns.map Sum.inl ∧ 0 < ns.length ∧ ∀ m, m ∈ ns → (∀ y, y ∈ ns → y ≤ m) → Q (.int m) H) (tCons (tVar i) tNil)) (mMaxD i) := ⟨fun {F H σ fps ds ds' d} r e Q q => by
  unfold mMaxD at e
  split at e
  · rename_i d0 hd0
    obtain ⟨w, hw, ow⟩ := r.slots i d0 (look_some hd0)
    obtain ⟨p, dk, rfl, rfl, hf, kvs, hp, kr⟩ := dc_ow hi ow
    dsimp only [dctD] at e
    split at e
    · rename_i ns hns
      obtain ⟨e, rfl⟩ := opt_ok e
      cases ns with
      | nil => cases e
      | cons a ns =>
        cases e
        refine ⟨_, hw, p, kvs, a :: ns, rfl, .inl hp, kvR_ints kr hns, by simp, fun m hm hmax => ?_⟩
        obtain ⟨h1, h2, h3⟩ := foldl_max ns a
        have : m = ns.foldl max a := by
          have l1 : m ≤ ns.foldl max a := by
            rcases List.mem_cons.mp hm with rfl | hm
            · exact h1
            · exact h2 m hm
          have l2 : ns.foldl max a ≤ m := by
            rcases h3 with h | h
            · rw [h]; exact hmax a (by simp)
            · exact hmax _ (List.mem_cons_of_mem _ h)
          omega
        subst this
        exact q F H fps _ (Same.refl _) r (.int _)
    · cases e
  · cases e⟩
/-- len(d) -/
def mDLen (i : Nat) : M D := fun s => match look s i with
  | some d => match dctD d with
    | some kvs => .ok (.int kvs.length) s
    | none => .no
  | none => .no
theorem d_lenN (i : Nat) (hi : unpm (O.getD i .sh) = .dc 1) : DE K c O (tCB (rLenN K) (tCons (tVar i) tNil)) (mDLen i) := ⟨fun {F H σ fps ds ds' d} r e Q q => by
  unfold mDLen at e
  split at e
  · rename_i d0 hd0
    obtain ⟨w, hw, ow⟩ := r.slots i d0 (look_some hd0)
    obtain ⟨p, dk, rfl, rfl, hf, xs, hp, kr⟩ := dc_ow hi ow
    dsimp only [dctD] at e
    cases e
    refine ⟨_, hw, p, xs, rfl, hp, (knR_nks kr).mono r.sub, ?_⟩
    rw [knR_len kr]
    exact q F H fps _ (Same.refl _) r (.int _)
  · cases e⟩
theorem d_lenK (i : Nat) (hi : unpm (O.getD i .sh) = .dc 0) : DE K c O (tCB (fun xs H Q => ∃ a kvs, xs = [V.ref a] ∧ H a = some (.dK kvs) ∧ Q (.int kvs.length) H) (tCons (tVar i) tNil)) (mDLen i) := ⟨fun {F H σ fps ds ds' d} r e Q q => by
  unfold mDLen at e
  split at e
  · rename_i d0 hd0
    obtain ⟨w, hw, ow⟩ := r.slots i d0 (look_some hd0)
    obtain ⟨p, dk, rfl, rfl, hf, xs, hp, kr⟩ := dc_ow hi ow
    dsimp only [dctD] at e
    cases e
    refine ⟨_, hw, p, xs, rfl, hp, ?_⟩
    rw [kvR_len kr]
    exact q F H fps _ (Same.refl _) r (.int _)
  · cases e⟩
/-- pairs of whole numbers in order -/
def ltPr (p q : Int × Int) : Bool := SrtO.lexB p q
def insPr (p : Int × Int) : List (Int × Int) → List (Int × Int)
  | [] => [p]
  | q :: r => if SrtO.lexB q p then q :: insPr p r else p :: q :: r
def sortPr : List (Int × Int) → List (Int × Int)
  | [] => []
  | p :: r => insPr p (sortPr r)
theorem lexB_swo : SrtO.Swo SrtO.lexB := by
  refine ⟨fun x y h => ?_, fun x y z h1 h2 => ?_⟩
  · have a := SrtO.lexB_iff.mp h
    refine SrtO.lexB_no.mpr ?_
    omega
  · have a := SrtO.lexB_no.mp h1
    have b := SrtO.lexB_no.mp h2
    refine SrtO.lexB_no.mpr ?_
    omega
theorem insPr_perm (p : Int × Int) : ∀ l, (insPr p l).Perm (p :: l)
  | [] => List.Perm.refl _
  | q :: r => by
    unfold insPr
    split
    · exact ((insPr_perm p r).cons q).trans (List.Perm.swap _ _ _)
    · exact List.Perm.refl _
theorem sortPr_perm : ∀ l, (sortPr l).Perm l
  | [] => List.Perm.refl _
  | p :: r => (insPr_perm p _).trans ((sortPr_perm r).cons p)
def SrtP (l : List (Int × Int)) : Prop := l.Pairwise fun x y => SrtO.lexB y x = false
theorem insPr_srt (p : Int × Int) : ∀ {l}, SrtP l → SrtP (insPr p l)
  | [], _ => List.pairwise_singleton _ _
  | q :: r, h => by
    unfold SrtP at h
    rw [List.pairwise_cons] at h
    unfold insPr
    split
    · rename_i hl
      refine List.pairwise_cons.mpr ⟨fun y hy => ?_, insPr_srt p h.2⟩
      rcases List.mem_cons.mp ((insPr_perm p r).mem_iff.mp hy) with rfl | hy
      · exact lexB_swo.asym _ _ hl
      · exact h.1 y hy
    · rename_i hl
      have hl : SrtO.lexB q p = false := by simpa using hl
      refine List.pairwise_cons.mpr ⟨fun y hy => ?_, List.pairwise_cons.mpr h⟩
      rcases List.mem_cons.mp hy with rfl | hy
      · exact hl
      · have a := SrtO.lexB_no.mp hl
        have b := SrtO.lexB_no.mp (h.1 y hy)
        refine SrtO.lexB_no.mpr ?_
        omega
theorem sortPr_srt : ∀ l, SrtP (sortPr l)
  | [] => List.Pairwise.nil
  | p :: r => insPr_srt p (sortPr_srt r)
theorem lexB_eq {p q : Int × Int} (h1 : SrtO.lexB p q = false) (h2 : SrtO.lexB q p = false) : p = q := by
  have a := SrtO.lexB_no.mp h1
  have b := SrtO.lexB_no.mp h2
  refine Prod.ext ?_ ?_ <;> omega
theorem srtP_uniq : ∀ {l m : List (Int × Int)}, SrtP l → SrtP m → l.Perm m → l = m
  | [], m, _, _, h => (List.Perm.eq_nil h.symm).symm
  | x :: l, [], _, _, h => absurd h.length_eq (by simp)
  | x :: l, y :: m, hl, hm, h => by
    have hl' := List.pairwise_cons.mp hl
    have hm' := List.pairwise_cons.mp hm
    have e : x = y := by
      refine lexB_eq ?_ ?_
      · rcases List.mem_cons.mp (h.mem_iff.mp (List.mem_cons_self (a := x) (l := l))) with e | hx
        · rw [e]; exact lexB_swo.refl y
        · exact hm'.1 x hx
      · rcases List.mem_cons.mp (h.mem_iff.mpr (List.mem_cons_self (a := y) (l := m))) with e | hy
        · rw [e]; exact lexB_swo.refl x
        · exact hl'.1 y hy
    subst e
    rw [srtP_uniq hl'.2 hm'.2 h.cons_inv]
def pairsD : List (D × D) → Option (List (Int × Int))
  | [] => some []
  | (.tuple [.int a, .int b], _) :: r => (pairsD r).map ((a, b) :: ·)
  | _ :: _ => none
def prD (p : Int × Int) : D := .tuple [.int p.1, .int p.2]
/-- sorted(d) -/
def mSortD (i : Nat) : M D := fun s => match look s i with
  | some d => match dctD d with
    | some kvs => match pairsD kvs with
      | some ps => .ok (.list ((sortPr ps).map prD)) s
      | none => .no
    | none => .no
  | none => .no
theorem knR_pairs {xs : List NdX} {dk : List (D × D)} (h : KnR K F xs dk) : ∀ {ps : List (Int × Int)}, pairsD dk = some ps → (∀ x ∈ xs, isPr x.1 = true) ∧ xs.map (fun x => nkP x.1) = ps := by
  induction h with
  | nil => intro ps e; cases e; exact ⟨fun x hx => (by cases hx), rfl⟩
  | @cons k b v d xs ds h1 h2 h3 h4 t ih =>
    intro ps e
    unfold pairsD at e
    split at e
    · rename_i e'; cases e'
    · rename_i a b' d' r' e'
      cases k with
      | tup ks =>
        match ks, e' with
        | [.num a', .num b''], e' =>
          injection e' with e1 e2
          injection e1 with e3 e4
          injection e3 with e3
          have e3' : ([PyData.int a', .int b''] : List D) = [.int a, .int b'] := e3
          injection e3' with q1 q2
          injection q1 with q1
          injection q2 with q2 _
          injection q2 with q2
          subst q1 q2
          subst e2
          cases z : pairsD ds with
          | none => rw [z] at e; cases e
          | some qs =>
            rw [z] at e
            cases e
            obtain ⟨a1, a2⟩ := ih z
            refine ⟨fun x hx => ?_, by rw [List.map_cons, a2]; rfl⟩
            rcases List.mem_cons.mp hx with rfl | hx
            · rfl
            · exact a1 x hx
        | [], e' => injection e' with e1 _; injection e1 with e1 _; injection e1 with e1; cases e1
        | [_], e' => injection e' with e1 _; injection e1 with e1 _; injection e1 with e1; injection e1 with _ e1; cases e1
        | .none :: _ :: _, e' => cases h1
        | .text _ :: _ :: _, e' => cases h1
        | .tup _ :: _ :: _, e' => injection e' with e1 _; injection e1 with e1 _; injection e1 with e1; injection e1 with e1 _; cases e1
        | .num _ :: .none :: _, e' => cases h1
        | .num _ :: .text _ :: _, e' => cases h1
        | .num _ :: .tup _ :: _, e' => injection e' with e1 _; injection e1 with e1 _; injection e1 with e1; injection e1 with _ e1; injection e1 with e1 _; cases e1
        | .num _ :: .num _ :: _ :: _, e' => injection e' with e1 _; injection e1 with e1 _; injection e1 with e1; injection e1 with _ e1; injection e1 with _ e1; cases e1
      | none => cases h1
      | text _ => cases h1
      | num _ => injection e' with e1 _; injection e1 with e1 _; cases e1
    · cases e
theorem o_sortD (i : Nat) (hi : unpm (O.getD i .sh) = .dc 1) : DO K c O (.ls .sh) (tCB (rSortN K) (tCons (tVar i) tNil)) (mSortD i) := ⟨fun {F H σ fps ds ds' d} r e Q q => by
  unfold mSortD at e
  split at e
  · rename_i d0 hd0
    obtain ⟨w, hw, ow⟩ := r.slots i d0 (look_some hd0)
    obtain ⟨p, dk, rfl, rfl, hf, xs, hp, kr⟩ := dc_ow hi ow
    dsimp only [dctD] at e
    split at e
    · rename_i ps hps
      cases e
      obtain ⟨h1, h2⟩ := knR_pairs kr hps
      refine ⟨_, hw, p, xs, rfl, hp, (knR_nks kr).mono r.sub, h1, fun ys l hy1 hy2 hl => ?_⟩
      obtain ⟨g1, g2, g3⟩ := r.fresh hl
      have ey : ys.map (fun x => nkP x.1) = sortPr ps := by
        refine srtP_uniq (List.pairwise_map.mpr hy2) (sortPr_srt ps) ?_
        exact (hy1.map _).trans (by rw [h2]; exact (sortPr_perm ps).symm)
      have al : DpAll K F (ys.map fun x => V.ref x.2.1) ((sortPr ps).map prD) := by
        rw [← ey]
        have hin : ∀ x ∈ ys, x ∈ xs := fun x hx => hy1.mem_iff.mp hx
        clear ey hy1 hy2
        induction ys with
        | nil => exact .nil
        | cons y ys ih =>
          refine .cons ?_ (ih fun x hx => hin x (by simp [hx]))
          have hx := hin y (by simp)
          have := (knR_nks kr y hx).2.2
          rw [isPr_eq (h1 y hx)] at this
          exact this
      refine q F _ fps (.ref l) [l] (Same.refl _) (r.allocO hl _) (ls_ow upd_same al) (fun q hq => ?_) (by simp)
      have : q = l := by simpa using hq
      subst this
      exact ⟨g1, by rw [upd_same]; simp, g2, g3⟩
    · cases e
  · cases e⟩
end
end Z
set_option Elab.async false
set_option linter.all false
set_option maxRecDepth 100000
set_option maxHeartbeats 2000000
namespace Z
open PySem L2
/-! ### what the meanings of dicts come to -/
section
variable {s : DS} {Nx Bk Ct : DS → Prop} {Ex : Xc → DS → Prop} {Rt : D → DS → Prop} {n i : Nat} {mk mx m : M D} {Q : D → DS → Prop}
theorem ev_dget_0 : Ev0 (mDGet n i mk) s Q = So0 (look s i) fun _ => Ev0 mk s fun k s' => So0 (look s' i) fun d => So0 (dctD d) fun kvs => kyOk n k = true ∧ So0 (dget k kvs) fun x => Q x s' := by
  have key : Ev0 (mDGet n i mk) s Q = So0 (look s i) fun _ => Ev0 (bnd mk (dgA n i)) s Q := by
    unfold Ev0 mDGet
    cases look s i <;> rfl
  rw [key, ev_bnd_0]
  congr 1
  funext _
  refine ev_ext_0 fun k s' => ?_
  unfold dgA
  dsimp only [Ev0]
  cases look s' i with
  | none => rfl
  | some d =>
    dsimp only [So0]
    cases dctD d with
    | none => rfl
    | some kvs =>
      dsimp only
      by_cases z : kyOk n k = true
      · rw [if_pos z]
        unfold opt
        cases dget k kvs <;> simp [z]
      · rw [if_neg z]; simp [z]
theorem ev_dget : Ev (mDGet n i mk) s Q = So (look s i) fun _ => Ev mk s fun k s' => So (look s' i) fun d => So (dctD d) fun kvs => kyOk n k = true ∧ So (dget k kvs) fun x => Q x s' := by with_unfolding_all exact ev_dget_0
theorem ev_dget2_0 : Ev0 (mDGet2 n i mk mx) s Q = So0 (look s i) fun _ => Ev0 mk s fun k s1 => Ev0 mx s1 fun x s' => So0 (look s' i) fun d => So0 (dctD d) fun kvs => kyOk n k = true ∧ Q ((dget k kvs).getD x) s' := by
  have key : Ev0 (mDGet2 n i mk mx) s Q = So0 (look s i) fun _ => Ev0 (bnd mk fun k => bnd mx (dgB n i k)) s Q := by
    unfold Ev0 mDGet2
    cases look s i <;> rfl
  rw [key, ev_bnd_0]
  congr 1
  funext _
  refine ev_ext_0 fun k s1 => ?_
  rw [ev_bnd_0]
  refine ev_ext_0 fun x s' => ?_
  unfold dgB
  dsimp only [Ev0]
  cases look s' i with
  | none => rfl
  | some d =>
    dsimp only [So0]
    cases dctD d with
    | none => rfl
    | some kvs =>
      dsimp only
      by_cases z : kyOk n k = true
      · rw [if_pos z]; simp [z]
      · rw [if_neg z]; simp [z]
theorem ev_dget2 : Ev (mDGet2 n i mk mx) s Q = So (look s i) fun _ => Ev mk s fun k s1 => Ev mx s1 fun x s' => So (look s' i) fun d => So (dctD d) fun kvs => kyOk n k = true ∧ Q ((dget k kvs).getD x) s' := by with_unfolding_all exact ev_dget2_0
theorem ev_din_0 {g : Bool} : Ev0 (mDIn n i g mk) s Q = Ev0 mk s fun k s' => So0 (look s' i) fun d => So0 (dctD d) fun kvs => kyOk n k = true ∧ Q (.bool (g.xor (dget k kvs).isSome)) s' := by
  unfold mDIn
  rw [ev_bnd_0]
  refine ev_ext_0 fun k s' => ?_
  dsimp only [Ev0]
  cases look s' i with
  | none => rfl
  | some d =>
    dsimp only [So0]
    cases dctD d with
    | none => rfl
    | some kvs =>
      dsimp only
      by_cases z : kyOk n k = true
      · rw [if_pos z]
        cases g <;> simp [z]
      · rw [if_neg z]; simp [z]
theorem ev_din {g : Bool} : Ev (mDIn n i g mk) s Q = Ev mk s fun k s' => So (look s' i) fun d => So (dctD d) fun kvs => kyOk n k = true ∧ Q (.bool (g.xor (dget k kvs).isSome)) s' := by with_unfolding_all exact ev_din_0
theorem run_dput_0 : Run0 (sDPutD n i mk m) s Nx Rt Bk Ct Ex = Ev0 m s fun v s1 => So0 (look s1 i) fun _ => Ev0 mk s1 fun k s2 => So0 (look s2 i) fun d => So0 (dctD d) fun kvs => kyOk n k = true ∧ kvs.length < sizeLine ∧ Nx (s2.set i (some (.dict (dput k v kvs)))) := by
  unfold Run0 sDPutD Ev0
  cases m s with
  | no => rfl
  | ok v s1 =>
    dsimp only
    cases look s1 i with
    | none => rfl
    | some _ =>
      dsimp only [So0]
      cases mk s1 with
      | no => rfl
      | ok k s2 =>
        dsimp only
        cases look s2 i with
        | none => rfl
        | some d =>
          dsimp only
          cases dctD d with
          | none => rfl
          | some kvs =>
            dsimp only
            by_cases z : kyOk n k = true
            · by_cases y : kvs.length < sizeLine
              · simp [z, y]
              · simp [z, y]
            · simp [z]
theorem run_dput : Run (sDPutD n i mk m) s Nx Rt Bk Ct Ex = Ev m s fun v s1 => So (look s1 i) fun _ => Ev mk s1 fun k s2 => So (look s2 i) fun d => So (dctD d) fun kvs => kyOk n k = true ∧ kvs.length < sizeLine ∧ Nx (s2.set i (some (.dict (dput k v kvs)))) := by with_unfolding_all exact run_dput_0
theorem ev_dnew_0 : Ev0 mDNew s Q = Q (.dict []) s := rfl
theorem ev_dnew : Ev mDNew s Q = Q (.dict []) s := by with_unfolding_all exact ev_dnew_0
theorem ev_prs0_0 {Q : List (D × D) → DS → Prop} : Ev0 (mPrs []) s Q = Q [] s := rfl
theorem ev_prs0 {Q : List (D × D) → DS → Prop} : Ev (mPrs []) s Q = Q [] s := by with_unfolding_all exact ev_prs0_0
theorem ev_prsC_0 {mv : M D} {r : List (M D × M D)} {Q : List (D × D) → DS → Prop} : Ev0 (mPrs ((mk, mv) :: r)) s Q = Ev0 mk s fun k s1 => Ev0 mv s1 fun v s2 => Ev0 (mPrs r) s2 fun l s' => Q ((k, v) :: l) s' := by
  show Ev0 (bnd mk fun k => bnd mv fun v => bnd (mPrs r) fun l => fun s => R.ok ((k, v) :: l) s) s Q = _
  rw [ev_bnd_0]
  refine ev_ext_0 fun k s1 => ?_
  rw [ev_bnd_0]
  refine ev_ext_0 fun v s2 => ?_
  rw [ev_bnd_0]
  refine ev_ext_0 fun l s' => ?_
  rfl
theorem ev_prsC {mv : M D} {r : List (M D × M D)} {Q : List (D × D) → DS → Prop} : Ev (mPrs ((mk, mv) :: r)) s Q = Ev mk s fun k s1 => Ev mv s1 fun v s2 => Ev (mPrs r) s2 fun l s' => Q ((k, v) :: l) s' := by with_unfolding_all exact ev_prsC_0
theorem ev_disp_0 {ms : List (M D × M D)} : Ev0 (mDisp ms) s Q = Ev0 (mPrs ms) s fun l s' => prsOk l = true ∧ Q (.dict (l.foldl (fun a p => dput p.1 p.2 a) [])) s' := by
  unfold mDisp
  rw [ev_bnd_0]
  refine ev_ext_0 fun l s' => ?_
  dsimp only [Ev0, opt]
  by_cases z : prsOk l = true
  · rw [if_pos z]; simp [z]
  · rw [if_neg z]; simp [z]
theorem ev_disp {ms : List (M D × M D)} : Ev (mDisp ms) s Q = Ev (mPrs ms) s fun l s' => prsOk l = true ∧ Q (.dict (l.foldl (fun a p => dput p.1 p.2 a) [])) s' := by with_unfolding_all exact ev_disp_0
theorem ev_keysS_0 {Q : List D → DS → Prop} : Ev0 (mKeysS i) s Q = So0 (look s i) fun d => So0 (dctD d) fun kvs => Q (kvs.map (·.1)) s := by
  unfold Ev0 mKeysS
  cases look s i with
  | none => rfl
  | some d => dsimp only [So0]; cases dctD d <;> rfl
theorem ev_keysS {Q : List D → DS → Prop} : Ev (mKeysS i) s Q = So (look s i) fun d => So (dctD d) fun kvs => Q (kvs.map (·.1)) s := by with_unfolding_all exact ev_keysS_0
theorem run_lock_0 {b : MS} : Run0 (sLock i b) s Nx Rt Bk Ct Ex = So0 (look s i) fun d => So0 (dctD d) fun _ => Run0 b s (fun s' => So0 (look s' i) fun _ => Nx s') (fun _ _ => False) (fun _ => False) (fun _ => False) fun _ _ => False := by
  unfold Run0 sLock
  cases look s i with
  | none => rfl
  | some d =>
    dsimp only [So0]
    cases dctD d with
    | none => rfl
    | some _ =>
      dsimp only
      cases b s with
      | nx s' => dsimp only; cases look s' i <;> rfl
      | _ => rfl
theorem run_lock {b : MS} : Run (sLock i b) s Nx Rt Bk Ct Ex = So (look s i) fun d => So (dctD d) fun _ => Run b s (fun s' => So (look s' i) fun _ => Nx s') (fun _ _ => False) (fun _ => False) (fun _ => False) fun _ _ => False := by with_unfolding_all exact run_lock_0
theorem ev_maxD_0 : Ev0 (mMaxD i) s Q = So0 (look s i) fun d => So0 (dctD d) fun kvs => So0 (kIntsD kvs) fun ns => So0 (maxL ns) fun m => Q (.int m) s := by
  unfold Ev0 mMaxD
  cases look s i with
  | none => rfl
  | some d =>
    dsimp only [So0]
    cases dctD d with
    | none => rfl
    | some kvs =>
      dsimp only
      cases kIntsD kvs with
      | none => rfl
      | some ns => dsimp only [opt]; cases maxL ns <;> rfl
theorem ev_maxD : Ev (mMaxD i) s Q = So (look s i) fun d => So (dctD d) fun kvs => So (kIntsD kvs) fun ns => So (maxL ns) fun m => Q (.int m) s := by with_unfolding_all exact ev_maxD_0
theorem ev_dlen_0 : Ev0 (mDLen i) s Q = So0 (look s i) fun d => So0 (dctD d) fun kvs => Q (.int kvs.length) s := by
  unfold Ev0 mDLen
  cases look s i with
  | none => rfl
  | some d => dsimp only [So0]; cases dctD d <;> rfl
theorem ev_dlen : Ev (mDLen i) s Q = So (look s i) fun d => So (dctD d) fun kvs => Q (.int kvs.length) s := by with_unfolding_all exact ev_dlen_0
theorem ev_sortD_0 : Ev0 (mSortD i) s Q = So0 (look s i) fun d => So0 (dctD d) fun kvs => So0 (pairsD kvs) fun ps => Q (.list ((sortPr ps).map prD)) s := by
  unfold Ev0 mSortD
  cases look s i with
  | none => rfl
  | some d =>
    dsimp only [So0]
    cases dctD d with
    | none => rfl
    | some kvs =>
      dsimp only
      cases pairsD kvs <;> rfl
theorem ev_sortD : Ev (mSortD i) s Q = So (look s i) fun d => So (dctD d) fun kvs => So (pairsD kvs) fun ps => Q (.list ((sortPr ps).map prD)) s := by with_unfolding_all exact ev_sortD_0
theorem un1 {k : Nat} {A : Around} (h : Room k A) : A.units + 1 < cLine := by have := units65 h; omega
theorem un9 {k : Nat} {A : Around} (h : Room k A) : A.units + 9 < cLine := by have := units65 h; omega
theorem so_dct {l : List (D × D)} {Q : List (D × D) → Prop} : So (dctD (.dict l)) Q = Q l := by with_unfolding_all rfl
theorem ky_i {a : Int} : kyOk 0 (.int a) = true := nr rfl
theorem ky_p {a b : Int} : kyOk 1 (.tuple [.int a, .int b]) = true := nr rfl
theorem ky_n {a b c : Int} : kyOk 1 (.tuple [.int a, .tuple [.int b, .int c]]) = true := nr rfl
theorem prs1 {a : Int} {v : D} : prsOk [(.int a, v)] = true := nr rfl
theorem dput0 {k v : D} : dput k v [] = [(k, v)] := nr rfl
theorem flN0 {α β : Type} {f : β → α → β} {b : β} : List.foldl f b [] = b := nr rfl
theorem flC0 {α β : Type} {f : β → α → β} {b : β} {a : α} {l : List α} : List.foldl f b (a :: l) = List.foldl f (f b a) l := nr rfl
end
end Z
set_option Elab.async false
set_option linter.all false
set_option maxRecDepth 100000
set_option maxHeartbeats 1000000
namespace S
open PySem L2 Z
/-! ### the text by places -/
def top (i : Nat) : Stmt := PySem.Challenge.pw_slackfigures_k02_rows_of_a_worth.main.body.getD i (.Pass ⟨0, 0, 0, 0⟩)
abbrev s_law_deck : Stmt := top 3
abbrev s_law_pick : Stmt := top 4
abbrev s_law_kind : Stmt := top 5
abbrev s_law_counts : Stmt := top 8
abbrev s_how_many : Stmt := top 1
abbrev s_law_great : Stmt := top 6
abbrev s_law_whole : Stmt := top 7
abbrev s_law_sum : Stmt := top 9
abbrev s_law : Stmt := top 10
/-! ### what the defs do with data -/
def b_law_deck : MS := (sSeq (sIf (mB (mOp geI (mV (mVar 0)) (mV (mOp powI (mV (mC (.int 10))) (mV (mC (.int 18))))))) (sRet (mLst (mCons (mOp subI (mV (mVar 0)) (mV (mOp powI (mV (mC (.int 10))) (mV (mC (.int 18)))))) (mCons (mOp modI (mV (mVar 0)) (mV (mC (.int 2147483579)))) (mCons (mVar 1) mNil))))) sNx) (sRet (mLst (mCons (mC (.int 0)) (mCons (mOp modI (mV (mVar 0)) (mV (mC (.int 2147483579)))) (mCons (mVar 1) mNil))))))
def F_law_deck : FD := fnD 2 2 (.ls .sh) b_law_deck
def b_law_pick : MS := (sSeq (sIf (mB (mOp gtI (mV (mOp ixD (mSlot 0) (mV (mC (.int 0))))) (mV (mC (.int 1))))) (sSeq (sSet 3 (mOp modI (mV (mOp ixD (mSlot 0) (mV (mC (.int 0))))) (mV (mVar 1)))) (sSeq (sPut 0 (mC (.int 0)) (mOp divI (mV (mOp ixD (mSlot 0) (mV (mC (.int 0))))) (mV (mVar 1)))) (sRet (mVar 3)))) sNx) (sSeq (sPut 0 (mC (.int 2)) (mOp addD (mV (mOp ixD (mSlot 0) (mV (mC (.int 2))))) (mV (mC (.int 1))))) (sSeq (sSet 2 (mOp modI (mV (mOp powI (mV (mOp addD (mV (mOp ixD (mSlot 0) (mV (mC (.int 1))))) (mV (mOp mulI (mV (mC (.int 15485867))) (mV (mOp ixD (mSlot 0) (mV (mC (.int 2))))))))) (mV (mC (.int 5))))) (mV (mC (.int 2147483647))))) (sSeq (sSet 3 (mOp divI (mV (mOp modI (mV (mOp powI (mV (mOp addD (mV (mVar 2)) (mV (mOp mulI (mV (mC (.int 7919))) (mV (mOp ixD (mSlot 0) (mV (mC (.int 2))))))))) (mV (mC (.int 3))))) (mV (mC (.int 2147483629))))) (mV (mC (.int 32))))) (sSeq (sIf (mB (mOp gtI (mV (mVar 1)) (mV (mC (.int 1000000))))) (sRet (mOp modI (mV (mOp addD (mV (mOp mulI (mV (mVar 3)) (mV (mC (.int 2147483563))))) (mV (mVar 2)))) (mV (mVar 1)))) sNx) (sRet (mOp modI (mV (mVar 3)) (mV (mVar 1)))))))))
def F_law_pick : FD := fnD 4 2 .sh b_law_pick
def b_law_kind : MS := (sSeq (sSet 1 (mOp ixD (mV (mLst (mCons (mC (.int 2)) (mCons (mC (.int 4)) (mCons (mC (.int 4)) (mCons (mC (.int 8)) (mCons (mC (.int 16)) mNil))))))) (mV (mCall1 F_law_pick 1 0 (mCons (mC (.int 5)) mNil))))) (sRet (mTup (mCons (mVar 1) (mCons (mOp addD (mV (mOp divI (mV (mVar 1)) (mV (mC (.int 2))))) (mV (mCall1 F_law_pick 1 0 (mCons (mOp subI (mV (mVar 1)) (mV (mOp divI (mV (mVar 1)) (mV (mC (.int 2)))))) mNil)))) mNil)))))
def F_law_kind : FD := fnD 2 1 .sh b_law_kind
def b_law_counts : MS := (sSeq (sSet 2 (mDisp [((mC (.int 0)), (mC (.int 1)))])) (sSeq (sFor (mR1 (mCons (mVar 1) mNil)) (gN 3) (sSeq (sSet 4 mDNew) (sSeq (sLock 2 (sFor (mKeysS 2) (gN 5) (sFor (mR2 (mCons (mOp subI (mV (mC (.int 0))) (mV (mOp ixD (mV (mVar 0)) (mV (mC (.int 1)))))) (mCons (mOp addD (mV (mOp ixD (mV (mVar 0)) (mV (mC (.int 1))))) (mV (mC (.int 1)))) mNil))) (gN 6) (sSeq (sSet 7 (mOp addD (mV (mOp mulI (mV (mVar 5)) (mV (mOp ixD (mV (mVar 0)) (mV (mC (.int 0))))))) (mV (mVar 6)))) (sDPutD 0 4 (mVar 7) (mOp addD (mV (mDGet2 0 4 (mVar 7) (mC (.int 0)))) (mV (mDGet 0 2 (mVar 5))))))))) (sSeq (sSet 2 (mMove 4)) (sKill 4 sNx))))) (sRet (mVar 2))))
def F_law_counts : FD := fnD 8 2 (.dc 0) b_law_counts
def b_how_many : MS := (sSeq (sAsg (mVar 0) (gT 2 (gC (gN 5) (gC (gN 6) gE)))) (sSeq (sSet 3 (mDisp [((mVar 2), (mC (.int 1)))])) (sSeq (sFor (mR1 (mCons (mVar 1) mNil)) (gN 4) (sSeq (sSet 7 mDNew) (sSeq (sLock 3 (sFor (mKeysS 3) (gN 8) (sFor (mR2 (mCons (mUn negI (mV (mVar 6))) (mCons (mOp addD (mV (mVar 6)) (mV (mC (.int 1)))) mNil))) (gN 9) (sIf (mB (mOp eqD (mV (mOp modI (mV (mOp subI (mV (mVar 8)) (mV (mVar 9)))) (mV (mVar 5)))) (mV (mC (.int 0))))) (sSeq (sSet 10 (mOp divI (mV (mOp subI (mV (mVar 8)) (mV (mVar 9)))) (mV (mVar 5)))) (sDPutD 0 7 (mVar 10) (mOp addD (mV (mDGet2 0 7 (mVar 10) (mC (.int 0)))) (mV (mDGet 0 3 (mVar 8)))))) sNx)))) (sSeq (sSet 3 (mMove 7)) (sKill 7 sNx))))) (sRet (mDGet2 0 3 (mC (.int 0)) (mC (.int 0)))))))
def F_how_many : FD := fnD 11 3 .sh b_how_many
def b_law_great : MS := (sSeq (sSet 2 (mC (.int 1))) (sSeq (sFor (mR1 (mCons (mCall1 F_law_pick 1 0 (mCons (mOp addD (mV (mVar 1)) (mV (mC (.int 1)))) mNil)) mNil)) (gN 3) (sSet 2 (mOp mulI (mV (mVar 2)) (mV (mC (.int 10)))))) (sSeq (sSet 4 (mC (.int 0))) (sSeq (sFor (mR1 (mCons (mC (.int 5)) mNil)) (gN 3) (sSet 4 (mOp addD (mV (mOp mulI (mV (mVar 4)) (mV (mOp powI (mV (mC (.int 10))) (mV (mC (.int 12))))))) (mV (mCall1 F_law_pick 1 0 (mCons (mOp powI (mV (mC (.int 10))) (mV (mC (.int 12)))) mNil)))))) (sRet (mOp modI (mV (mVar 4)) (mV (mVar 2))))))))
def F_law_great : FD := fnD 5 2 .sh b_law_great
def b_law_whole : MS := (sRet (mAndV (mUn (fun d => some (.bool (isiB "int" d))) (mV (mVar 0))) (mNotV (mUn (fun d => some (.bool (isiB "bool" d))) (mV (mVar 0))))))
def F_law_whole : FD := fnD 1 1 .sh b_law_whole
def b_law_sum : MS := (sSeq (sSet 3 (mC (.int 0))) (sSeq (sFor (mR2 (mCons (mOp subI (mV (mC (.int 0))) (mV (mOp ixD (mV (mVar 0)) (mV (mC (.int 1)))))) (mCons (mOp addD (mV (mOp ixD (mV (mVar 0)) (mV (mC (.int 1))))) (mV (mC (.int 1)))) mNil))) (gN 4) (sIf (mB (mOp eqD (mV (mOp modI (mV (mOp subI (mV (mVar 2)) (mV (mVar 4)))) (mV (mOp ixD (mV (mVar 0)) (mV (mC (.int 0))))))) (mV (mC (.int 0))))) (sSet 3 (mOp addD (mV (mVar 3)) (mV (mCall F_how_many 3 (mCons (mVar 0) (mCons (mOp subI (mV (mVar 1)) (mV (mC (.int 1)))) (mCons (mOp divI (mV (mOp subI (mV (mVar 2)) (mV (mVar 4)))) (mV (mOp ixD (mV (mVar 0)) (mV (mC (.int 0)))))) mNil))))))) sNx)) (sRet (mVar 3))))
def F_law_sum : FD := fnD 5 3 .sh b_law_sum
noncomputable def b_law : MS := (sSeq (sSet 1 (mCall F_law_deck 2 (mCons (mOp ixD (mV (mOp addD (mV (mVar 0)) (mV (mLst (mCons (mC (.int 0)) mNil))))) (mV (mC (.int 0)))) (mCons (mC (.int 0)) mNil)))) (sSeq (sSet 2 (mCall1 F_law_kind 0 1 mNil)) (sSeq (sSet 3 (mC (.int 0))) (sSeq (sSet 4 (mC (.int 1))) (sSeq (sSet 5 (mOp addD (mV (mC (.int 1))) (mV (mCall1 F_law_pick 1 1 (mCons (mC (.int 1500)) mNil))))) (sSeq (sWhile (mB (mOp leI (mV (mOp mulI (mV (mVar 4)) (mV (mOp addD (mV (mOp mulI (mV (mC (.int 2))) (mV (mOp ixD (mV (mVar 2)) (mV (mC (.int 1))))))) (mV (mC (.int 1))))))) (mV (mVar 5)))) (sSeq (sSet 3 (mOp addD (mV (mVar 3)) (mV (mC (.int 1))))) (sSet 4 (mOp mulI (mV (mVar 4)) (mV (mOp addD (mV (mOp mulI (mV (mC (.int 2))) (mV (mOp ixD (mV (mVar 2)) (mV (mC (.int 1))))))) (mV (mC (.int 1))))))))) (sSeq (sSet 6 (mCall F_law_counts 2 (mCons (mVar 2) (mCons (mVar 3) mNil)))) (sSeq (sSet 7 (mMaxD 6)) (sSeq (sFor (mR2 (mCons (mOp subI (mV (mOp subI (mV (mC (.int 0))) (mV (mVar 7)))) (mV (mC (.int 3)))) (mCons (mOp addD (mV (mVar 7)) (mV (mC (.int 4)))) mNil))) (gN 8) (sSeq (sSet 10 (mCall F_how_many 3 (mCons (mVar 2) (mCons (mVar 3) (mCons (mVar 8) mNil))))) (sIf (mOr (mNot (mB (mCall F_law_whole 1 (mCons (mVar 10) mNil)))) (mB (mOp neD (mV (mVar 10)) (mV (mDGet2 0 6 (mVar 8) (mC (.int 0))))))) (sRet (mC (.bool false))) sNx))) (sSeq (sFor (mIt (mOp addD (mV (mSl (mV (mVar 0)) (mP1 (mC (.int 1))) (mP1 (mC (.int 7))))) (mV (mLst (mCons (mC (.int 0)) mNil))))) (gN 9) (sSeq (sSet 1 (mCall F_law_deck 2 (mCons (mVar 9) (mCons (mC (.int 50)) mNil)))) (sSeq (sSet 2 (mCall1 F_law_kind 0 1 mNil)) (sSeq (sSet 3 (mOp ixD (mV (mLst (mCons (mC (.int 60)) (mCons (mOp addD (mV (mC (.int 1))) (mV (mCall1 F_law_pick 1 1 (mCons (mC (.int 60)) mNil)))) mNil)))) (mV (mCall1 F_law_pick 1 1 (mCons (mC (.int 2)) mNil))))) (sSeq (sSet 8 (mOp mulI (mV (mCall1 F_law_great 1 1 (mCons (mC (.int 60)) mNil))) (mV (mOp ixD (mV (mLst (mCons (mC (.int 1)) (mCons (mUn negI (mV (mC (.int 1)))) mNil)))) (mV (mCall1 F_law_pick 1 1 (mCons (mC (.int 2)) mNil))))))) (sSeq (sSet 11 (mC (.int 1))) (sSeq (sFor (mR1 (mCons (mCall1 F_law_pick 1 1 (mCons (mOp addD (mV (mVar 3)) (mV (mC (.int 1)))) mNil)) mNil)) (gN 12) (sSet 11 (mOp mulI (mV (mVar 11)) (mV (mOp ixD (mV (mVar 2)) (mV (mC (.int 0)))))))) (sSeq (sSet 8 (mOp ixD (mV (mLst (mCons (mVar 8) (mCons (mOp modI (mV (mVar 8)) (mV (mVar 11))) (mCons (mOp subI (mV (mC (.int 0))) (mV (mOp modI (mV (mVar 8)) (mV (mVar 11))))) mNil))))) (mV (mCall1 F_law_pick 1 1 (mCons (mC (.int 3)) mNil))))) (sSeq (sSet 10 (mCall F_how_many 3 (mCons (mVar 2) (mCons (mVar 3) (mCons (mVar 8) mNil))))) (sSeq (sIf (mOr (mNot (mB (mCall F_law_whole 1 (mCons (mVar 10) mNil)))) (mB (mOp neD (mV (mVar 10)) (mV (mCall F_law_sum 3 (mCons (mVar 2) (mCons (mVar 3) (mCons (mVar 8) mNil)))))))) (sRet (mC (.bool false))) sNx) (sIf (mB (mOp neD (mV (mCall F_how_many 3 (mCons (mVar 2) (mCons (mVar 3) (mCons (mOp subI (mV (mC (.int 0))) (mV (mVar 8))) mNil))))) (mV (mVar 10)))) (sRet (mC (.bool false))) sNx))))))))))) (sRet (mAndV (mOp eqD (mV (mCall F_how_many 3 (mCons (mVar 2) (mCons (mC (.int 0)) (mCons (mC (.int 0)) mNil))))) (mV (mC (.int 1)))) (mOp eqD (mV (mCall F_how_many 3 (mCons (mVar 2) (mCons (mC (.int 0)) (mCons (mOp addD (mV (mC (.int 1))) (mV (mCall1 F_law_pick 1 1 (mCons (mC (.int 99)) mNil)))) mNil))))) (mV (mC (.int 0))))))))))))))))
noncomputable def F_law : FD := fnD 13 1 .sh b_law
/-! ### each def keeps its meaning -/
def bts : List Str := ["bool", "int", "isinstance", "max", "range"]
section
variable {P : Program} {w : World} {K : Fg} {mg : Str → Option Value} {base : Heap}
theorem sc_law_deck : FnScope ["cell", "turn"] ["cell", "turn"] (defScope s_law_deck) := ⟨rfl, rfl, rfl, by decide +kernel, rfl, by decide +kernel, by decide +kernel⟩
theorem ok_law_deck {f : Addr} {fd : FuncData}  (F : FnP K "_law_deck" s_law_deck f fd) (hB : ∀ x ∈ bts, mg x = none)      : FnOk P w K mg base CX0 1 f fd ["cell", "turn"] (spD K mg F_law_deck [.sh, .sh] (.ls .sh)) := by
  show FnOk P w K mg base CX0 (0 + 1) f fd ["cell", "turn"] (spD K mg (fnD 2 2 (.ls .sh) b_law_deck) [.sh, .sh] (.ls .sh))
  refine fn_ok (k := 0) (ps := [.sh, .sh]) (rk := (.ls .sh)) (b := b_law_deck) (O1 := []) (N := ["cell", "turn"]) F sc_law_deck rfl (of_decide_eq_true rfl) (fun cdv A outer s H E hr => ⟨_, (pss_cons (ps_if (pt_cmpR op_ge (pv 0) (pe_op op_pow pe_int pe_int) (nomark _)) (pss_one (ps_ret (pe_lst (pa_cons (pe_op op_sub (pv 0) (pe_op op_pow pe_int pe_int)) (pa_cons (pe_op op_mod (pv 0) pe_int) (pa_cons (pv 1) pa_nil)))))) pss_nil) (pss_one (ps_ret (pe_lst (pa_cons pe_int (pa_cons (pe_op op_mod (pv 0) pe_int) (pa_cons (pv 1) pa_nil))))))), fun c hps hrk hmg => ?_⟩)
  show DC K c [] [.sh, .sh] _ b_law_deck _
  exact (c_cons (c_if (d_test (d_op g_ge (DE.b (d_var 0)) (DE.b (d_op g_pow (DE.b d_int) (DE.b d_int))))) (c_retO (o_lst (da_cons (d_op g_sub (DE.b (d_var 0)) (DE.b (d_op g_pow (DE.b d_int) (DE.b d_int)))) (da_cons (d_op g_mod (DE.b (d_var 0)) (DE.b d_int)) (da_cons (d_var 1) da_nil)))) hrk) c_nil) (c_retO (o_lst (da_cons d_int (da_cons (d_op g_mod (DE.b (d_var 0)) (DE.b d_int)) (da_cons (d_var 1) da_nil)))) hrk))
theorem sc_law_pick : FnScope ["deck", "many", "number", "found"] ["deck", "many"] (defScope s_law_pick) := ⟨rfl, rfl, rfl, by decide +kernel, rfl, by decide +kernel, by decide +kernel⟩
theorem ok_law_pick {f : Addr} {fd : FuncData}  (F : FnP K "_law_pick" s_law_pick f fd) (hB : ∀ x ∈ bts, mg x = none)      : FnOk P w K mg base CX0 1 f fd ["deck", "many"] (spD K mg F_law_pick [(.pm (.ls .sh)), .sh] .sh) := by
  show FnOk P w K mg base CX0 (0 + 1) f fd ["deck", "many"] (spD K mg (fnD 4 2 .sh b_law_pick) [(.pm (.ls .sh)), .sh] .sh)
  refine fn_ok (k := 0) (ps := [(.pm (.ls .sh)), .sh]) (rk := .sh) (b := b_law_pick) (O1 := []) (N := ["deck", "many", "number", "found"]) F sc_law_pick rfl (of_decide_eq_true rfl) (fun cdv A outer s H E hr => ⟨_, (pss_cons (ps_if (pt_cmpR op_gt (pe_ix ix_seq (pv 0) pe_int (fun _ _ => rfl)) pe_int (nomark _)) (pss_cons (ps_set (i := 3) sc_law_pick.nd rfl (by first | exact Or.inl rfl | exact Or.inr rfl) (pe_op op_mod (pe_ix ix_seq (pv 0) pe_int (fun _ _ => rfl)) (pv 1))) (pss_cons (ps_asg (pe_op op_fdivW (pe_ix ix_seq (pv 0) pe_int (fun _ _ => rfl)) (pv 1)) (pg_sub (pv 0) pe_int set_list)) (pss_one (ps_ret (pv 3))))) pss_nil) (pss_cons (ps_asg (pe_op op_addU (pe_ix ix_seq (pv 0) pe_int (fun _ _ => rfl)) pe_int) (pg_sub (pv 0) pe_int set_list)) (pss_cons (ps_set (i := 2) sc_law_pick.nd rfl (by first | exact Or.inl rfl | exact Or.inr rfl) (pe_op op_mod (pe_op op_pow (pe_op op_addU (pe_ix ix_seq (pv 0) pe_int (fun _ _ => rfl)) (pe_op op_mulX pe_int (pe_ix ix_seq (pv 0) pe_int (fun _ _ => rfl)))) pe_int) pe_int)) (pss_cons (ps_set (i := 3) sc_law_pick.nd rfl (by first | exact Or.inl rfl | exact Or.inr rfl) (pe_op op_fdivW (pe_op op_mod (pe_op op_pow (pe_op op_addU (pv 2) (pe_op op_mulX pe_int (pe_ix ix_seq (pv 0) pe_int (fun _ _ => rfl)))) pe_int) pe_int) pe_int)) (pss_cons (ps_if (pt_cmpR op_gt (pv 1) pe_int (nomark _)) (pss_one (ps_ret (pe_op op_mod (pe_op op_addU (pe_op op_mulX (pv 3) pe_int) (pv 2)) (pv 1)))) pss_nil) (pss_one (ps_ret (pe_op op_mod (pv 3) (pv 1))))))))), fun c hps hrk hmg => ?_⟩)
  show DC K c [] [(.pm (.ls .sh)), .sh, .sh, .sh] _ b_law_pick _
  exact (c_cons (c_if (d_test (d_op g_gt (DE.b (d_op g_ix (d_slot 0) (DE.b d_int))) (DE.b d_int))) (c_cons (c_set 3 (d_op g_mod (DE.b (d_op g_ix (d_slot 0) (DE.b d_int))) (DE.b (d_var 1)))) (c_cons (c_put 0 (d_op g_div (DE.b (d_op g_ix (d_slot 0) (DE.b d_int))) (DE.b (d_var 1))) d_int) (c_ret (d_var 3) hrk))) c_nil) (c_cons (c_put 0 (d_op g_add (DE.b (d_op g_ix (d_slot 0) (DE.b d_int))) (DE.b d_int)) d_int) (c_cons (c_set 2 (d_op g_mod (DE.b (d_op g_pow (DE.b (d_op g_add (DE.b (d_op g_ix (d_slot 0) (DE.b d_int))) (DE.b (d_op g_mul (DE.b d_int) (DE.b (d_op g_ix (d_slot 0) (DE.b d_int))))))) (DE.b d_int))) (DE.b d_int))) (c_cons (c_set 3 (d_op g_div (DE.b (d_op g_mod (DE.b (d_op g_pow (DE.b (d_op g_add (DE.b (d_var 2)) (DE.b (d_op g_mul (DE.b d_int) (DE.b (d_op g_ix (d_slot 0) (DE.b d_int))))))) (DE.b d_int))) (DE.b d_int))) (DE.b d_int))) (c_cons (c_if (d_test (d_op g_gt (DE.b (d_var 1)) (DE.b d_int))) (c_ret (d_op g_mod (DE.b (d_op g_add (DE.b (d_op g_mul (DE.b (d_var 3)) (DE.b d_int))) (DE.b (d_var 2)))) (DE.b (d_var 1))) hrk) c_nil) (c_ret (d_op g_mod (DE.b (d_var 3)) (DE.b (d_var 1))) hrk))))))
theorem sc_law_kind : FnScope ["deck", "base"] ["deck"] (defScope s_law_kind) := ⟨rfl, rfl, rfl, by decide +kernel, rfl, by decide +kernel, by decide +kernel⟩
theorem ok_law_kind {f : Addr} {fd : FuncData}  (F : FnP K "_law_kind" s_law_kind f fd) (hB : ∀ x ∈ bts, mg x = none)     (h_law_pick : Fk P w K mg base "_law_pick" 1 ["deck", "many"] (spD K mg F_law_pick [(.pm (.ls .sh)), .sh] .sh)) : FnOk P w K mg base CX0 2 f fd ["deck"] (spD K mg F_law_kind [(.pm (.ls .sh))] .sh) := by
  obtain ⟨_, _, G_law_pick, mg_law_pick, kp_law_pick, bi_law_pick⟩ := h_law_pick
  show FnOk P w K mg base CX0 (1 + 1) f fd ["deck"] (spD K mg (fnD 2 1 .sh b_law_kind) [(.pm (.ls .sh))] .sh)
  refine fn_ok (k := 1) (ps := [(.pm (.ls .sh))]) (rk := .sh) (b := b_law_kind) (O1 := []) (N := ["deck", "base"]) F sc_law_kind rfl (of_decide_eq_true rfl) (fun cdv A outer s H E hr => ⟨_, (pss_cons (ps_set (i := 1) sc_law_kind.nd rfl (by first | exact Or.inl rfl | exact Or.inr rfl) (pe_ix ix_seq (pe_lst (pa_cons pe_int (pa_cons pe_int (pa_cons pe_int (pa_cons pe_int (pa_cons pe_int pa_nil)))))) (pe_call G_law_pick (hr.mono (by decide)) rfl mg_law_pick kp_law_pick bi_law_pick .nil pass0 (pa_cons (pv 0) (pa_cons pe_int pa_nil))) (fun _ _ => rfl))) (pss_one (ps_ret (pe_tup (pa_cons (pv 1) (pa_cons (pe_op op_addU (pe_op op_fdivW (pv 1) pe_int) (pe_call G_law_pick (hr.mono (by decide)) rfl mg_law_pick kp_law_pick bi_law_pick .nil pass0 (pa_cons (pv 0) (pa_cons (pe_op op_sub (pv 1) (pe_op op_fdivW (pv 1) pe_int)) pa_nil)))) pa_nil)))))), fun c hps hrk hmg => ?_⟩)
  show DC K c [] [(.pm (.ls .sh)), .sh] _ b_law_kind _
  exact (c_cons (c_set 1 (d_op g_ix (DE.b (d_lst (da_cons d_int (da_cons d_int (da_cons d_int (da_cons d_int (da_cons d_int da_nil))))))) (DE.b (DO.sh (o_call1 0 (k := .ls .sh) (da_cons d_int da_nil) (.inr rfl)))))) (c_ret (d_tup (da_cons (d_var 1) (da_cons (d_op g_add (DE.b (d_op g_div (DE.b (d_var 1)) (DE.b d_int))) (DE.b (DO.sh (o_call1 0 (k := .ls .sh) (da_cons (d_op g_sub (DE.b (d_var 1)) (DE.b (d_op g_div (DE.b (d_var 1)) (DE.b d_int)))) da_nil) (.inr rfl))))) da_nil))) hrk))
theorem sc_law_counts : FnScope ["kind", "count", "counts", "turn", "later", "number", "figure", "there"] ["kind", "count"] (defScope s_law_counts) := ⟨rfl, rfl, rfl, by decide +kernel, rfl, by decide +kernel, by decide +kernel⟩
theorem ok_law_counts {f : Addr} {fd : FuncData}  (F : FnP K "_law_counts" s_law_counts f fd) (hB : ∀ x ∈ bts, mg x = none)      : FnOk P w K mg base CX0 1 f fd ["kind", "count"] (spD K mg F_law_counts [.sh, .sh] (.dc 0)) := by
  show FnOk P w K mg base CX0 (0 + 1) f fd ["kind", "count"] (spD K mg (fnD 8 2 (.dc 0) b_law_counts) [.sh, .sh] (.dc 0))
  refine fn_ok (k := 0) (ps := [.sh, .sh]) (rk := (.dc 0)) (b := b_law_counts) (O1 := []) (N := ["kind", "count", "counts", "turn", "later", "number", "figure", "there"]) F sc_law_counts rfl (of_decide_eq_true rfl) (fun cdv A outer s H E hr => ⟨_, (pss_cons (ps_set (i := 2) sc_law_counts.nd rfl (by first | exact Or.inl rfl | exact Or.inr rfl) (pe_disp (pps_cons pe_int pe_int pps_nil) rfl rfl (by simp) (by decide))) (pss_cons (ps_for PassesOwn.never rfl (pi_range1 rfl (hB "range" (by decide +kernel)) (pa_cons (pv 1) pa_nil)) (pg_name (i := 3) sc_law_counts.nd rfl (by first | exact Or.inl rfl | exact Or.inr rfl)) (pss_cons (ps_set (i := 4) sc_law_counts.nd rfl (by first | exact Or.inl rfl | exact Or.inr rfl) pe_dnewK) (pss_cons (ps_lock (ps_for PassesOwn.never rfl (pi_keys (pv 2)) (pg_name (i := 5) sc_law_counts.nd rfl (by first | exact Or.inl rfl | exact Or.inr rfl)) (pss_one (ps_for PassesOwn.never rfl (pi_range2 rfl (hB "range" (by decide +kernel)) (pa_cons (pe_op op_sub pe_int (pe_ix ix_seq (pv 0) pe_int (fun _ _ => rfl))) (pa_cons (pe_op op_addU (pe_ix ix_seq (pv 0) pe_int (fun _ _ => rfl)) pe_int) pa_nil))) (pg_name (i := 6) sc_law_counts.nd rfl (by first | exact Or.inl rfl | exact Or.inr rfl)) (pss_cons (ps_set (i := 7) sc_law_counts.nd rfl (by first | exact Or.inl rfl | exact Or.inr rfl) (pe_op op_addU (pe_op op_mulX (pv 5) (pe_ix ix_seq (pv 0) pe_int (fun _ _ => rfl))) (pv 6))) (pss_one (ps_dput (un1 hr) (pv 4) (pv 7) (pe_op op_addU (pe_dget2 (un1 hr) (pv 4) (pv 7) pe_int ⟨rfl, rfl, rfl, rfl⟩) (pe_dget (un1 hr) (pv 2) (pv 5) (fun _ _ => rfl))) (by with_unfolding_all rfl)))))))) (pss_cons (ps_set (i := 2) sc_law_counts.nd rfl (by first | exact Or.inl rfl | exact Or.inr rfl) (pv 4)) pss_nil)))) (pss_one (ps_ret (pv 2))))), fun c hps hrk hmg => ?_⟩)
  show DC K c [] [.sh, .sh, .sh, .sh, .sh, .sh, .sh, .sh] _ b_law_counts _
  exact (c_cons (c_setO 2 (o_disp (.cons (fun _ => d_int) (fun _ => d_int) .nil))) (c_cons (c_for (i_r1 (da_cons (d_var 1) da_nil)) (g_name 3) (c_cons (c_setO 4 o_dnew0) (c_cons (c_lockD 2 rfl rfl (fun c' e1 e2 e3 => (fun hps hrk hmg => c_for (i_keys 2 rfl) (g_name 5) (c_for (i_r2 (da_cons (d_op g_sub (DE.b d_int) (DE.b (d_op g_ix (DE.b (d_var 0)) (DE.b d_int)))) (da_cons (d_op g_add (DE.b (d_op g_ix (DE.b (d_var 0)) (DE.b d_int))) (DE.b d_int)) da_nil))) (g_name 6) (c_cons (c_set 7 (d_op g_add (DE.b (d_op g_mul (DE.b (d_var 5)) (DE.b (d_op g_ix (DE.b (d_var 0)) (DE.b d_int))))) (DE.b (d_var 6)))) (c_dput 4 rfl (d_op g_add (DE.b (d_dget2 4 rfl (d_var 7) d_int)) (DE.b (d_dgetS 2 rfl (d_var 5)))) (d_var 7))))) (e1.trans hps) (e2.trans hrk) (e3.trans hmg))) (c_cons (c_setO 2 (o_move 4 rfl)) (c_kill 4 (by first | decide | exact of_decide_eq_true rfl) rfl c_nil))))) (c_retV 2 hrk (by rw [hps]; exact ⟨rfl, by simp⟩))))
theorem sc_how_many : FnScope ["kind", "count", "number", "known", "turn", "base", "most", "later", "left", "figure", "ahead"] ["kind", "count", "number"] (defScope s_how_many) := ⟨rfl, rfl, rfl, by decide +kernel, rfl, by decide +kernel, by decide +kernel⟩
theorem ok_how_many {f : Addr} {fd : FuncData}  (F : FnP K "how_many" s_how_many f fd) (hB : ∀ x ∈ bts, mg x = none)      : FnOk P w K mg base CX0 1 f fd ["kind", "count", "number"] (spD K mg F_how_many [.sh, .sh, .sh] .sh) := by
  show FnOk P w K mg base CX0 (0 + 1) f fd ["kind", "count", "number"] (spD K mg (fnD 11 3 .sh b_how_many) [.sh, .sh, .sh] .sh)
  refine fn_ok (k := 0) (ps := [.sh, .sh, .sh]) (rk := .sh) (b := b_how_many) (O1 := []) (N := ["kind", "count", "number", "known", "turn", "base", "most", "later", "left", "figure", "ahead"]) F sc_how_many rfl (of_decide_eq_true rfl) (fun cdv A outer s H E hr => ⟨_, (pss_cons (ps_asg (pv 0) (pg_tup rfl (pgs_cons (pg_name (i := 5) sc_how_many.nd rfl (by first | exact Or.inl rfl | exact Or.inr rfl)) (pgs_cons (pg_name (i := 6) sc_how_many.nd rfl (by first | exact Or.inl rfl | exact Or.inr rfl)) pgs_nil)))) (pss_cons (ps_set (i := 3) sc_how_many.nd rfl (by first | exact Or.inl rfl | exact Or.inr rfl) (pe_disp (pps_cons (pv 2) pe_int pps_nil) rfl rfl (by simp) (by decide))) (pss_cons (ps_for PassesOwn.never rfl (pi_range1 rfl (hB "range" (by decide +kernel)) (pa_cons (pv 1) pa_nil)) (pg_name (i := 4) sc_how_many.nd rfl (by first | exact Or.inl rfl | exact Or.inr rfl)) (pss_cons (ps_set (i := 7) sc_how_many.nd rfl (by first | exact Or.inl rfl | exact Or.inr rfl) pe_dnewK) (pss_cons (ps_lock (ps_for PassesOwn.never rfl (pi_keys (pv 3)) (pg_name (i := 8) sc_how_many.nd rfl (by first | exact Or.inl rfl | exact Or.inr rfl)) (pss_one (ps_for PassesOwn.never rfl (pi_range2 rfl (hB "range" (by decide +kernel)) (pa_cons (pe_un un_neg (pv 6)) (pa_cons (pe_op op_addU (pv 6) pe_int) pa_nil))) (pg_name (i := 9) sc_how_many.nd rfl (by first | exact Or.inl rfl | exact Or.inr rfl)) (pss_one (ps_if (pt_cmpR (op_eqD hr.units) (pe_op op_mod (pe_op op_sub (pv 8) (pv 9)) (pv 5)) pe_int (nomark _)) (pss_cons (ps_set (i := 10) sc_how_many.nd rfl (by first | exact Or.inl rfl | exact Or.inr rfl) (pe_op op_fdivW (pe_op op_sub (pv 8) (pv 9)) (pv 5))) (pss_one (ps_dput (un1 hr) (pv 7) (pv 10) (pe_op op_addU (pe_dget2 (un1 hr) (pv 7) (pv 10) pe_int ⟨rfl, rfl, rfl, rfl⟩) (pe_dget (un1 hr) (pv 3) (pv 8) (fun _ _ => rfl))) (by with_unfolding_all rfl)))) pss_nil)))))) (pss_cons (ps_set (i := 3) sc_how_many.nd rfl (by first | exact Or.inl rfl | exact Or.inr rfl) (pv 7)) pss_nil)))) (pss_one (ps_ret (pe_dget2 (un1 hr) (pv 3) pe_int pe_int ⟨rfl, rfl, rfl, rfl⟩)))))), fun c hps hrk hmg => ?_⟩)
  show DC K c [] [.sh, .sh, .sh, .sh, .sh, .sh, .sh, .sh, .sh, .sh, .sh] _ b_how_many _
  exact (c_cons (c_asg (d_var 0) (g_tup (gs_cons (g_name 5) (gs_cons (g_name 6) gs_nil)))) (c_cons (c_setO 3 (o_disp (.cons (fun _ => (d_var 2)) (fun _ => d_int) .nil))) (c_cons (c_for (i_r1 (da_cons (d_var 1) da_nil)) (g_name 4) (c_cons (c_setO 7 o_dnew0) (c_cons (c_lockD 3 rfl rfl (fun c' e1 e2 e3 => (fun hps hrk hmg => c_for (i_keys 3 rfl) (g_name 8) (c_for (i_r2 (da_cons (d_un g_neg (DE.b (d_var 6))) (da_cons (d_op g_add (DE.b (d_var 6)) (DE.b d_int)) da_nil))) (g_name 9) (c_if (d_test (d_op g_eq (DE.b (d_op g_mod (DE.b (d_op g_sub (DE.b (d_var 8)) (DE.b (d_var 9)))) (DE.b (d_var 5)))) (DE.b d_int))) (c_cons (c_set 10 (d_op g_div (DE.b (d_op g_sub (DE.b (d_var 8)) (DE.b (d_var 9)))) (DE.b (d_var 5)))) (c_dput 7 rfl (d_op g_add (DE.b (d_dget2 7 rfl (d_var 10) d_int)) (DE.b (d_dgetS 3 rfl (d_var 8)))) (d_var 10))) c_nil))) (e1.trans hps) (e2.trans hrk) (e3.trans hmg))) (c_cons (c_setO 3 (o_move 7 rfl)) (c_kill 7 (by first | decide | exact of_decide_eq_true rfl) rfl c_nil))))) (c_ret (d_dget2 3 rfl d_int d_int) hrk))))
theorem sc_law_great : FnScope ["deck", "figures", "size", "turn", "found"] ["deck", "figures"] (defScope s_law_great) := ⟨rfl, rfl, rfl, by decide +kernel, rfl, by decide +kernel, by decide +kernel⟩
theorem ok_law_great {f : Addr} {fd : FuncData}  (F : FnP K "_law_great" s_law_great f fd) (hB : ∀ x ∈ bts, mg x = none)     (h_law_pick : Fk P w K mg base "_law_pick" 1 ["deck", "many"] (spD K mg F_law_pick [(.pm (.ls .sh)), .sh] .sh)) : FnOk P w K mg base CX0 2 f fd ["deck", "figures"] (spD K mg F_law_great [(.pm (.ls .sh)), .sh] .sh) := by
  obtain ⟨_, _, G_law_pick, mg_law_pick, kp_law_pick, bi_law_pick⟩ := h_law_pick
  show FnOk P w K mg base CX0 (1 + 1) f fd ["deck", "figures"] (spD K mg (fnD 5 2 .sh b_law_great) [(.pm (.ls .sh)), .sh] .sh)
  refine fn_ok (k := 1) (ps := [(.pm (.ls .sh)), .sh]) (rk := .sh) (b := b_law_great) (O1 := []) (N := ["deck", "figures", "size", "turn", "found"]) F sc_law_great rfl (of_decide_eq_true rfl) (fun cdv A outer s H E hr => ⟨_, (pss_cons (ps_set (i := 2) sc_law_great.nd rfl (by first | exact Or.inl rfl | exact Or.inr rfl) pe_int) (pss_cons (ps_for PassesOwn.never rfl (pi_range1 rfl (hB "range" (by decide +kernel)) (pa_cons (pe_call G_law_pick (hr.mono (by decide)) rfl mg_law_pick kp_law_pick bi_law_pick .nil pass0 (pa_cons (pv 0) (pa_cons (pe_op op_addU (pv 1) pe_int) pa_nil))) pa_nil)) (pg_name (i := 3) sc_law_great.nd rfl (by first | exact Or.inl rfl | exact Or.inr rfl)) (pss_one (ps_set (i := 2) sc_law_great.nd rfl (by first | exact Or.inl rfl | exact Or.inr rfl) (pe_op op_mulX (pv 2) pe_int)))) (pss_cons (ps_set (i := 4) sc_law_great.nd rfl (by first | exact Or.inl rfl | exact Or.inr rfl) pe_int) (pss_cons (ps_for PassesOwn.never rfl (pi_range1 rfl (hB "range" (by decide +kernel)) (pa_cons pe_int pa_nil)) (pg_name (i := 3) sc_law_great.nd rfl (by first | exact Or.inl rfl | exact Or.inr rfl)) (pss_one (ps_set (i := 4) sc_law_great.nd rfl (by first | exact Or.inl rfl | exact Or.inr rfl) (pe_op op_addU (pe_op op_mulX (pv 4) (pe_op op_pow pe_int pe_int)) (pe_call G_law_pick (hr.mono (by decide)) rfl mg_law_pick kp_law_pick bi_law_pick .nil pass0 (pa_cons (pv 0) (pa_cons (pe_op op_pow pe_int pe_int) pa_nil))))))) (pss_one (ps_ret (pe_op op_mod (pv 4) (pv 2)))))))), fun c hps hrk hmg => ?_⟩)
  show DC K c [] [(.pm (.ls .sh)), .sh, .sh, .sh, .sh] _ b_law_great _
  exact (c_cons (c_set 2 d_int) (c_cons (c_for (i_r1 (da_cons (DO.sh (o_call1 0 (k := .ls .sh) (da_cons (d_op g_add (DE.b (d_var 1)) (DE.b d_int)) da_nil) (.inr rfl))) da_nil)) (g_name 3) (c_set 2 (d_op g_mul (DE.b (d_var 2)) (DE.b d_int)))) (c_cons (c_set 4 d_int) (c_cons (c_for (i_r1 (da_cons d_int da_nil)) (g_name 3) (c_set 4 (d_op g_add (DE.b (d_op g_mul (DE.b (d_var 4)) (DE.b (d_op g_pow (DE.b d_int) (DE.b d_int))))) (DE.b (DO.sh (o_call1 0 (k := .ls .sh) (da_cons (d_op g_pow (DE.b d_int) (DE.b d_int)) da_nil) (.inr rfl))))))) (c_ret (d_op g_mod (DE.b (d_var 4)) (DE.b (d_var 2))) hrk)))))
theorem sc_law_whole : FnScope ["thing"] ["thing"] (defScope s_law_whole) := ⟨rfl, rfl, rfl, by decide +kernel, rfl, by decide +kernel, by decide +kernel⟩
theorem ok_law_whole {f : Addr} {fd : FuncData}  (F : FnP K "_law_whole" s_law_whole f fd) (hB : ∀ x ∈ bts, mg x = none)      : FnOk P w K mg base CX0 1 f fd ["thing"] (spD K mg F_law_whole [.sh] .sh) := by
  show FnOk P w K mg base CX0 (0 + 1) f fd ["thing"] (spD K mg (fnD 1 1 .sh b_law_whole) [.sh] .sh)
  refine fn_ok (k := 0) (ps := [.sh]) (rk := .sh) (b := b_law_whole) (O1 := []) (N := ["thing"]) F sc_law_whole rfl (of_decide_eq_true rfl) (fun cdv A outer s H E hr => ⟨_, (pss_one (ps_ret (pe_and (pe_callB call_isi rfl (hB "isinstance" (by decide +kernel)) bt_isinstance (pa_cons (pv 0) (pa_cons (pe_bltn (v := .ty "int") rfl (hB "int" (by decide +kernel)) bt_int rfl) pa_nil))) (pe_one (pe_not (pe_callB call_isi rfl (hB "isinstance" (by decide +kernel)) bt_isinstance (pa_cons (pv 0) (pa_cons (pe_bltn (v := .ty "bool") rfl (hB "bool" (by decide +kernel)) bt_bool rfl) pa_nil)))))))), fun c hps hrk hmg => ?_⟩)
  show DC K c [] [.sh] _ b_law_whole _
  exact (c_ret (d_andV (d_isi "int" (DE.b (d_var 0))) (d_notV (d_isi "bool" (DE.b (d_var 0))))) hrk)
theorem sc_law_sum : FnScope ["kind", "count", "number", "total", "figure"] ["kind", "count", "number"] (defScope s_law_sum) := ⟨rfl, rfl, rfl, by decide +kernel, rfl, by decide +kernel, by decide +kernel⟩
theorem ok_law_sum {f : Addr} {fd : FuncData}  (F : FnP K "_law_sum" s_law_sum f fd) (hB : ∀ x ∈ bts, mg x = none)     (h_how_many : Fk P w K mg base "how_many" 1 ["kind", "count", "number"] (spD K mg F_how_many [.sh, .sh, .sh] .sh)) : FnOk P w K mg base CX0 2 f fd ["kind", "count", "number"] (spD K mg F_law_sum [.sh, .sh, .sh] .sh) := by
  obtain ⟨_, _, G_how_many, mg_how_many, kp_how_many, bi_how_many⟩ := h_how_many
  show FnOk P w K mg base CX0 (1 + 1) f fd ["kind", "count", "number"] (spD K mg (fnD 5 3 .sh b_law_sum) [.sh, .sh, .sh] .sh)
  refine fn_ok (k := 1) (ps := [.sh, .sh, .sh]) (rk := .sh) (b := b_law_sum) (O1 := []) (N := ["kind", "count", "number", "total", "figure"]) F sc_law_sum rfl (of_decide_eq_true rfl) (fun cdv A outer s H E hr => ⟨_, (pss_cons (ps_set (i := 3) sc_law_sum.nd rfl (by first | exact Or.inl rfl | exact Or.inr rfl) pe_int) (pss_cons (ps_for PassesOwn.never rfl (pi_range2 rfl (hB "range" (by decide +kernel)) (pa_cons (pe_op op_sub pe_int (pe_ix ix_seq (pv 0) pe_int (fun _ _ => rfl))) (pa_cons (pe_op op_addU (pe_ix ix_seq (pv 0) pe_int (fun _ _ => rfl)) pe_int) pa_nil))) (pg_name (i := 4) sc_law_sum.nd rfl (by first | exact Or.inl rfl | exact Or.inr rfl)) (pss_one (ps_if (pt_cmpR (op_eqD hr.units) (pe_op op_mod (pe_op op_sub (pv 2) (pv 4)) (pe_ix ix_seq (pv 0) pe_int (fun _ _ => rfl))) pe_int (nomark _)) (pss_one (ps_set (i := 3) sc_law_sum.nd rfl (by first | exact Or.inl rfl | exact Or.inr rfl) (pe_op op_addU (pv 3) (pe_call G_how_many (hr.mono (by decide)) rfl mg_how_many kp_how_many bi_how_many .nil pass0 (pa_cons (pv 0) (pa_cons (pe_op op_sub (pv 1) pe_int) (pa_cons (pe_op op_fdivW (pe_op op_sub (pv 2) (pv 4)) (pe_ix ix_seq (pv 0) pe_int (fun _ _ => rfl))) pa_nil))))))) pss_nil))) (pss_one (ps_ret (pv 3))))), fun c hps hrk hmg => ?_⟩)
  show DC K c [] [.sh, .sh, .sh, .sh, .sh] _ b_law_sum _
  exact (c_cons (c_set 3 d_int) (c_cons (c_for (i_r2 (da_cons (d_op g_sub (DE.b d_int) (DE.b (d_op g_ix (DE.b (d_var 0)) (DE.b d_int)))) (da_cons (d_op g_add (DE.b (d_op g_ix (DE.b (d_var 0)) (DE.b d_int))) (DE.b d_int)) da_nil))) (g_name 4) (c_if (d_test (d_op g_eq (DE.b (d_op g_mod (DE.b (d_op g_sub (DE.b (d_var 2)) (DE.b (d_var 4)))) (DE.b (d_op g_ix (DE.b (d_var 0)) (DE.b d_int))))) (DE.b d_int))) (c_set 3 (d_op g_add (DE.b (d_var 3)) (DE.b (DO.sh (o_call (da_cons (d_var 0) (da_cons (d_op g_sub (DE.b (d_var 1)) (DE.b d_int)) (da_cons (d_op g_div (DE.b (d_op g_sub (DE.b (d_var 2)) (DE.b (d_var 4)))) (DE.b (d_op g_ix (DE.b (d_var 0)) (DE.b d_int)))) da_nil)))))))) c_nil)) (c_ret (d_var 3) hrk)))
theorem sc_law : FnScope ["script", "deck", "kind", "count", "rows", "most", "counts", "reach", "number", "cell", "found", "size", "turn"] ["script"] (defScope s_law) := ⟨rfl, rfl, rfl, by decide +kernel, rfl, by decide +kernel, by decide +kernel⟩
theorem ok_law {f : Addr} {fd : FuncData}  (F : FnP K "law" s_law f fd) (hB : ∀ x ∈ bts, mg x = none)     (h_law_deck : Fk P w K mg base "_law_deck" 1 ["cell", "turn"] (spD K mg F_law_deck [.sh, .sh] (.ls .sh))) (h_law_kind : Fk P w K mg base "_law_kind" 2 ["deck"] (spD K mg F_law_kind [(.pm (.ls .sh))] .sh)) (h_law_pick : Fk P w K mg base "_law_pick" 1 ["deck", "many"] (spD K mg F_law_pick [(.pm (.ls .sh)), .sh] .sh)) (h_law_counts : Fk P w K mg base "_law_counts" 1 ["kind", "count"] (spD K mg F_law_counts [.sh, .sh] (.dc 0))) (h_how_many : Fk P w K mg base "how_many" 1 ["kind", "count", "number"] (spD K mg F_how_many [.sh, .sh, .sh] .sh)) (h_law_whole : Fk P w K mg base "_law_whole" 1 ["thing"] (spD K mg F_law_whole [.sh] .sh)) (h_law_great : Fk P w K mg base "_law_great" 2 ["deck", "figures"] (spD K mg F_law_great [(.pm (.ls .sh)), .sh] .sh)) (h_law_sum : Fk P w K mg base "_law_sum" 2 ["kind", "count", "number"] (spD K mg F_law_sum [.sh, .sh, .sh] .sh)) : FnOk P w K mg base CX0 3 f fd ["script"] (spD K mg F_law [.sh] .sh) := by
  obtain ⟨_, _, G_law_deck, mg_law_deck, kp_law_deck, bi_law_deck⟩ := h_law_deck
  obtain ⟨_, _, G_law_kind, mg_law_kind, kp_law_kind, bi_law_kind⟩ := h_law_kind
  obtain ⟨_, _, G_law_pick, mg_law_pick, kp_law_pick, bi_law_pick⟩ := h_law_pick
  obtain ⟨_, _, G_law_counts, mg_law_counts, kp_law_counts, bi_law_counts⟩ := h_law_counts
  obtain ⟨_, _, G_how_many, mg_how_many, kp_how_many, bi_how_many⟩ := h_how_many
  obtain ⟨_, _, G_law_whole, mg_law_whole, kp_law_whole, bi_law_whole⟩ := h_law_whole
  obtain ⟨_, _, G_law_great, mg_law_great, kp_law_great, bi_law_great⟩ := h_law_great
  obtain ⟨_, _, G_law_sum, mg_law_sum, kp_law_sum, bi_law_sum⟩ := h_law_sum
  show FnOk P w K mg base CX0 (2 + 1) f fd ["script"] (spD K mg (fnD 13 1 .sh b_law) [.sh] .sh)
  refine fn_ok (k := 2) (ps := [.sh]) (rk := .sh) (b := b_law) (O1 := []) (N := ["script", "deck", "kind", "count", "rows", "most", "counts", "reach", "number", "cell", "found", "size", "turn"]) F sc_law rfl (of_decide_eq_true rfl) (fun cdv A outer s H E hr => ⟨_, (pss_cons (ps_set (i := 1) sc_law.nd rfl (by first | exact Or.inl rfl | exact Or.inr rfl) (pe_call G_law_deck (hr.mono (by decide)) rfl mg_law_deck kp_law_deck bi_law_deck .nil pass0 (pa_cons (pe_ix ix_seq (pe_op op_addU (pv 0) (pe_lst (pa_cons pe_int pa_nil))) pe_int (fun _ _ => rfl)) (pa_cons pe_int pa_nil)))) (pss_cons (ps_set (i := 2) sc_law.nd rfl (by first | exact Or.inl rfl | exact Or.inr rfl) (pe_call G_law_kind (hr.mono (by decide)) rfl mg_law_kind kp_law_kind bi_law_kind .nil pass0 (pa_cons (pv 1) pa_nil))) (pss_cons (ps_set (i := 3) sc_law.nd rfl (by first | exact Or.inl rfl | exact Or.inr rfl) pe_int) (pss_cons (ps_set (i := 4) sc_law.nd rfl (by first | exact Or.inl rfl | exact Or.inr rfl) pe_int) (pss_cons (ps_set (i := 5) sc_law.nd rfl (by first | exact Or.inl rfl | exact Or.inr rfl) (pe_op op_addU pe_int (pe_call G_law_pick (hr.mono (by decide)) rfl mg_law_pick kp_law_pick bi_law_pick .nil pass0 (pa_cons (pv 1) (pa_cons pe_int pa_nil))))) (pss_cons (ps_while PassesOwn.never (pt_cmpR op_le (pe_op op_mulX (pv 4) (pe_op op_addU (pe_op op_mulX pe_int (pe_ix ix_seq (pv 2) pe_int (fun _ _ => rfl))) pe_int)) (pv 5) (nomark _)) (pss_cons (ps_set (i := 3) sc_law.nd rfl (by first | exact Or.inl rfl | exact Or.inr rfl) (pe_op op_addU (pv 3) pe_int)) (pss_one (ps_set (i := 4) sc_law.nd rfl (by first | exact Or.inl rfl | exact Or.inr rfl) (pe_op op_mulX (pv 4) (pe_op op_addU (pe_op op_mulX pe_int (pe_ix ix_seq (pv 2) pe_int (fun _ _ => rfl))) pe_int)))))) (pss_cons (ps_set (i := 6) sc_law.nd rfl (by first | exact Or.inl rfl | exact Or.inr rfl) (pe_call G_law_counts (hr.mono (by decide)) rfl mg_law_counts kp_law_counts bi_law_counts .nil pass0 (pa_cons (pv 2) (pa_cons (pv 3) pa_nil)))) (pss_cons (ps_set (i := 7) sc_law.nd rfl (by first | exact Or.inl rfl | exact Or.inr rfl) (pe_callB (cr_maxK rfl) rfl (hB "max" (by decide +kernel)) bt_max (pa_cons (pv 6) pa_nil))) (pss_cons (ps_for PassesOwn.never rfl (pi_range2 rfl (hB "range" (by decide +kernel)) (pa_cons (pe_op op_sub (pe_op op_sub pe_int (pv 7)) pe_int) (pa_cons (pe_op op_addU (pv 7) pe_int) pa_nil))) (pg_name (i := 8) sc_law.nd rfl (by first | exact Or.inl rfl | exact Or.inr rfl)) (pss_cons (ps_set (i := 10) sc_law.nd rfl (by first | exact Or.inl rfl | exact Or.inr rfl) (pe_call G_how_many (hr.mono (by decide)) rfl mg_how_many kp_how_many bi_how_many .nil pass0 (pa_cons (pv 2) (pa_cons (pv 3) (pa_cons (pv 8) pa_nil))))) (pss_one (ps_if (PW.pt (pw_or (pt_not (pt_val (pe_call G_law_whole (hr.mono (by decide)) rfl mg_law_whole kp_law_whole bi_law_whole .nil pass0 (pa_cons (pv 10) pa_nil)))) (pw_or1 (pt_cmpR (op_neD hr.units) (pv 10) (pe_dget2 (un1 hr) (pv 6) (pv 8) pe_int ⟨rfl, rfl, rfl, rfl⟩) (nomark _))))) (pss_one (ps_ret pe_bl)) pss_nil)))) (pss_cons (ps_for PassesOwn.never rfl (pi_seq (pe_op op_addU (pe_slice sl_U (pv 0) (po_some pe_int) (po_some pe_int)) (pe_lst (pa_cons pe_int pa_nil)))) (pg_name (i := 9) sc_law.nd rfl (by first | exact Or.inl rfl | exact Or.inr rfl)) (pss_cons (ps_set (i := 1) sc_law.nd rfl (by first | exact Or.inl rfl | exact Or.inr rfl) (pe_call G_law_deck (hr.mono (by decide)) rfl mg_law_deck kp_law_deck bi_law_deck .nil pass0 (pa_cons (pv 9) (pa_cons pe_int pa_nil)))) (pss_cons (ps_set (i := 2) sc_law.nd rfl (by first | exact Or.inl rfl | exact Or.inr rfl) (pe_call G_law_kind (hr.mono (by decide)) rfl mg_law_kind kp_law_kind bi_law_kind .nil pass0 (pa_cons (pv 1) pa_nil))) (pss_cons (ps_set (i := 3) sc_law.nd rfl (by first | exact Or.inl rfl | exact Or.inr rfl) (pe_ix ix_seq (pe_lst (pa_cons pe_int (pa_cons (pe_op op_addU pe_int (pe_call G_law_pick (hr.mono (by decide)) rfl mg_law_pick kp_law_pick bi_law_pick .nil pass0 (pa_cons (pv 1) (pa_cons pe_int pa_nil)))) pa_nil))) (pe_call G_law_pick (hr.mono (by decide)) rfl mg_law_pick kp_law_pick bi_law_pick .nil pass0 (pa_cons (pv 1) (pa_cons pe_int pa_nil))) (fun _ _ => rfl))) (pss_cons (ps_set (i := 8) sc_law.nd rfl (by first | exact Or.inl rfl | exact Or.inr rfl) (pe_op op_mulX (pe_call G_law_great (hr.mono (by decide)) rfl mg_law_great kp_law_great bi_law_great .nil pass0 (pa_cons (pv 1) (pa_cons pe_int pa_nil))) (pe_ix ix_seq (pe_lst (pa_cons pe_int (pa_cons (pe_un un_neg pe_int) pa_nil))) (pe_call G_law_pick (hr.mono (by decide)) rfl mg_law_pick kp_law_pick bi_law_pick .nil pass0 (pa_cons (pv 1) (pa_cons pe_int pa_nil))) (fun _ _ => rfl)))) (pss_cons (ps_set (i := 11) sc_law.nd rfl (by first | exact Or.inl rfl | exact Or.inr rfl) pe_int) (pss_cons (ps_for PassesOwn.never rfl (pi_range1 rfl (hB "range" (by decide +kernel)) (pa_cons (pe_call G_law_pick (hr.mono (by decide)) rfl mg_law_pick kp_law_pick bi_law_pick .nil pass0 (pa_cons (pv 1) (pa_cons (pe_op op_addU (pv 3) pe_int) pa_nil))) pa_nil)) (pg_name (i := 12) sc_law.nd rfl (by first | exact Or.inl rfl | exact Or.inr rfl)) (pss_one (ps_set (i := 11) sc_law.nd rfl (by first | exact Or.inl rfl | exact Or.inr rfl) (pe_op op_mulX (pv 11) (pe_ix ix_seq (pv 2) pe_int (fun _ _ => rfl)))))) (pss_cons (ps_set (i := 8) sc_law.nd rfl (by first | exact Or.inl rfl | exact Or.inr rfl) (pe_ix ix_seq (pe_lst (pa_cons (pv 8) (pa_cons (pe_op op_mod (pv 8) (pv 11)) (pa_cons (pe_op op_sub pe_int (pe_op op_mod (pv 8) (pv 11))) pa_nil)))) (pe_call G_law_pick (hr.mono (by decide)) rfl mg_law_pick kp_law_pick bi_law_pick .nil pass0 (pa_cons (pv 1) (pa_cons pe_int pa_nil))) (fun _ _ => rfl))) (pss_cons (ps_set (i := 10) sc_law.nd rfl (by first | exact Or.inl rfl | exact Or.inr rfl) (pe_call G_how_many (hr.mono (by decide)) rfl mg_how_many kp_how_many bi_how_many .nil pass0 (pa_cons (pv 2) (pa_cons (pv 3) (pa_cons (pv 8) pa_nil))))) (pss_cons (ps_if (PW.pt (pw_or (pt_not (pt_val (pe_call G_law_whole (hr.mono (by decide)) rfl mg_law_whole kp_law_whole bi_law_whole .nil pass0 (pa_cons (pv 10) pa_nil)))) (pw_or1 (pt_cmpR (op_neD hr.units) (pv 10) (pe_call G_law_sum (hr.mono (by decide)) rfl mg_law_sum kp_law_sum bi_law_sum .nil pass0 (pa_cons (pv 2) (pa_cons (pv 3) (pa_cons (pv 8) pa_nil)))) (nomark _))))) (pss_one (ps_ret pe_bl)) pss_nil) (pss_one (ps_if (pt_cmpR (op_neD hr.units) (pe_call G_how_many (hr.mono (by decide)) rfl mg_how_many kp_how_many bi_how_many .nil pass0 (pa_cons (pv 2) (pa_cons (pv 3) (pa_cons (pe_op op_sub pe_int (pv 8)) pa_nil)))) (pv 10) (nomark _)) (pss_one (ps_ret pe_bl)) pss_nil)))))))))))) (pss_one (ps_ret (pe_and (pe_cmpR (op_eqD hr.units) (pe_call G_how_many (hr.mono (by decide)) rfl mg_how_many kp_how_many bi_how_many .nil pass0 (pa_cons (pv 2) (pa_cons pe_int (pa_cons pe_int pa_nil)))) pe_int (nomark _)) (pe_one (pe_cmpR (op_eqD hr.units) (pe_call G_how_many (hr.mono (by decide)) rfl mg_how_many kp_how_many bi_how_many .nil pass0 (pa_cons (pv 2) (pa_cons pe_int (pa_cons (pe_op op_addU pe_int (pe_call G_law_pick (hr.mono (by decide)) rfl mg_law_pick kp_law_pick bi_law_pick .nil pass0 (pa_cons (pv 1) (pa_cons pe_int pa_nil)))) pa_nil)))) pe_int (nomark _)))))))))))))))), fun c hps hrk hmg => ?_⟩)
  show DC K c [] [.sh, .sh, .sh, .sh, .sh, .sh, .sh, .sh, .sh, .sh, .sh, .sh, .sh] _ b_law _
  exact (c_cons (c_setO 1 (o_call (da_cons (d_op g_ix (DE.b (d_op g_add (DE.b (d_var 0)) (DE.b (d_lst (da_cons d_int da_nil))))) (DE.b d_int)) (da_cons d_int da_nil)))) (c_cons (c_set 2 (DO.sh (o_call1 1 (k := .ls .sh) da_nil (.inl rfl)))) (c_cons (c_set 3 d_int) (c_cons (c_set 4 d_int) (c_cons (c_set 5 (d_op g_add (DE.b d_int) (DE.b (DO.sh (o_call1 1 (k := .ls .sh) (da_cons d_int da_nil) (.inl rfl)))))) (c_cons (c_while (d_test (d_op g_le (DE.b (d_op g_mul (DE.b (d_var 4)) (DE.b (d_op g_add (DE.b (d_op g_mul (DE.b d_int) (DE.b (d_op g_ix (DE.b (d_var 2)) (DE.b d_int))))) (DE.b d_int))))) (DE.b (d_var 5)))) (c_cons (c_set 3 (d_op g_add (DE.b (d_var 3)) (DE.b d_int))) (c_set 4 (d_op g_mul (DE.b (d_var 4)) (DE.b (d_op g_add (DE.b (d_op g_mul (DE.b d_int) (DE.b (d_op g_ix (DE.b (d_var 2)) (DE.b d_int))))) (DE.b d_int))))))) (c_cons (c_setO 6 (o_call (da_cons (d_var 2) (da_cons (d_var 3) da_nil)))) (c_cons (c_set 7 (d_maxD 6 rfl)) (c_cons (c_for (i_r2 (da_cons (d_op g_sub (DE.b (d_op g_sub (DE.b d_int) (DE.b (d_var 7)))) (DE.b d_int)) (da_cons (d_op g_add (DE.b (d_var 7)) (DE.b d_int)) da_nil))) (g_name 8) (c_cons (c_set 10 (DO.sh (o_call (da_cons (d_var 2) (da_cons (d_var 3) (da_cons (d_var 8) da_nil)))))) (c_if (d_or (d_not (d_tB (DO.sh (o_call (da_cons (d_var 10) da_nil))))) (d_test (d_op g_ne (DE.b (d_var 10)) (DE.b (d_dget2 6 rfl (d_var 8) d_int))))) (c_ret d_bl hrk) c_nil))) (c_cons (c_for (i_seq (d_op g_add (DE.b (d_sl (DE.b (d_var 0)) (p_some d_int) (p_some d_int))) (DE.b (d_lst (da_cons d_int da_nil))))) (g_name 9) (c_cons (c_setO 1 (o_call (da_cons (d_var 9) (da_cons d_int da_nil)))) (c_cons (c_set 2 (DO.sh (o_call1 1 (k := .ls .sh) da_nil (.inl rfl)))) (c_cons (c_set 3 (d_op g_ix (DE.b (d_lst (da_cons d_int (da_cons (d_op g_add (DE.b d_int) (DE.b (DO.sh (o_call1 1 (k := .ls .sh) (da_cons d_int da_nil) (.inl rfl))))) da_nil)))) (DE.b (DO.sh (o_call1 1 (k := .ls .sh) (da_cons d_int da_nil) (.inl rfl)))))) (c_cons (c_set 8 (d_op g_mul (DE.b (DO.sh (o_call1 1 (k := .ls .sh) (da_cons d_int da_nil) (.inl rfl)))) (DE.b (d_op g_ix (DE.b (d_lst (da_cons d_int (da_cons (d_un g_neg (DE.b d_int)) da_nil)))) (DE.b (DO.sh (o_call1 1 (k := .ls .sh) (da_cons d_int da_nil) (.inl rfl)))))))) (c_cons (c_set 11 d_int) (c_cons (c_for (i_r1 (da_cons (DO.sh (o_call1 1 (k := .ls .sh) (da_cons (d_op g_add (DE.b (d_var 3)) (DE.b d_int)) da_nil) (.inl rfl))) da_nil)) (g_name 12) (c_set 11 (d_op g_mul (DE.b (d_var 11)) (DE.b (d_op g_ix (DE.b (d_var 2)) (DE.b d_int)))))) (c_cons (c_set 8 (d_op g_ix (DE.b (d_lst (da_cons (d_var 8) (da_cons (d_op g_mod (DE.b (d_var 8)) (DE.b (d_var 11))) (da_cons (d_op g_sub (DE.b d_int) (DE.b (d_op g_mod (DE.b (d_var 8)) (DE.b (d_var 11))))) da_nil))))) (DE.b (DO.sh (o_call1 1 (k := .ls .sh) (da_cons d_int da_nil) (.inl rfl)))))) (c_cons (c_set 10 (DO.sh (o_call (da_cons (d_var 2) (da_cons (d_var 3) (da_cons (d_var 8) da_nil)))))) (c_cons (c_if (d_or (d_not (d_tB (DO.sh (o_call (da_cons (d_var 10) da_nil))))) (d_test (d_op g_ne (DE.b (d_var 10)) (DE.b (DO.sh (o_call (da_cons (d_var 2) (da_cons (d_var 3) (da_cons (d_var 8) da_nil))))))))) (c_ret d_bl hrk) c_nil) (c_if (d_test (d_op g_ne (DE.b (DO.sh (o_call (da_cons (d_var 2) (da_cons (d_var 3) (da_cons (d_op g_sub (DE.b d_int) (DE.b (d_var 8))) da_nil)))))) (DE.b (d_var 10)))) (c_ret d_bl hrk) c_nil))))))))))) (c_ret (d_andV (d_op g_eq (DE.b (DO.sh (o_call (da_cons (d_var 2) (da_cons d_int (da_cons d_int da_nil)))))) (DE.b d_int)) (d_op g_eq (DE.b (DO.sh (o_call (da_cons (d_var 2) (da_cons d_int (da_cons (d_op g_add (DE.b d_int) (DE.b (DO.sh (o_call1 1 (k := .ls .sh) (da_cons d_int da_nil) (.inl rfl))))) da_nil)))))) (DE.b d_int))) hrk)))))))))))
end
end S
set_option Elab.async false
set_option linter.all false
set_option maxRecDepth 100000
set_option maxHeartbeats 1000000
namespace S
open PySem L2 Z
local macro_rules | `(tactic| walk_at "z") => `(tactic| try simp (config := { dsimp := false }) only [↓ev_dget, ↓ev_dget2, ↓ev_din, ↓run_dput, ↓ev_dnew, ↓ev_disp, ↓ev_prs0, ↓ev_prsC, ↓ev_keysS, ↓run_lock, ↓ev_maxD, ↓ev_dlen, ↓ev_sortD, so_dct, ky_i, ky_p, ky_n, prs1, dput0, flN0, flC0, ↓run_setX, ↓run_dropX, ↓run_retX, ↓run_asgX, ↓run_raise, ↓run_raiseF, ↓run_tryAs, ↓run_tryOnly, ↓evX_of, ↓xv_xcall, ↓xv_xcall1, ↓xv_xcallG, ↓xv_xmeth, ↓xv_xop, ↓xv_xtup, ↓xv_xif, ↓xv_xlc, ↓ev_rev, ↓run_when, yesD_t, nonB_n, notNon_l, ↓ev_here, ↓ev_zip, ↓ev_zip1, ↓ev_join, so_two, ↓run_nx, ↓run_no, ↓run_bk, ↓run_ct, ↓run_seq, ↓run_set, ↓run_drop, ↓run_ret, ↓run_asg, ↓run_app, ↓run_put, ↓run_aug, ↓run_frz, ↓run_kill, ↓xr_if, ↓ev_lc, ↓ev_yes, ↓run_ext, ↓ev_enum, ↓run_asgT, ↓run_retM, ↓run_fld, ↓ev_fld, ↓ev_at, ↓xv_callG, ↓xv_tupG, ↓xv_meth, ↓xv_make, ↓ev_move, so_tof, so_nonO, so_fillN, so_fillE, so_fillS, bkG0, bkGE, bkGF, bkGT, stD0, stDC, so_dof, so_noFd, fdN, fdC, fdE, fdO, ptN, ptC, ptE, ptO, nm_ahead_end, nm_ahead_ended, nm_ahead_figures, nm_ahead_is_figure, nm_ahead_kind, nm_ahead_last, nm_ahead_parted, nm_ahead_put, nm_ahead_told, nm_ask_cell_kind, nm_ask_cell_looks, nm_ask_cell_sight, nm_ask_cell_table, nm_base_below, nm_base_held, nm_base_put, nm_base_under, nm_base_upper, nm_begin_done, nm_begin_figures, nm_begin_great, nm_begin_kind, nm_begin_left, nm_begin_looks, nm_begin_numbers, nm_begin_rows, nm_begin_seen, nm_begin_stand, nm_begin_wide, nm_begin_works, nm_begin_rows_done, nm_begin_rows_kind, nm_begin_rows_looks, nm_begin_rows_rows, nm_begin_rows_seen, nm_begin_rows_works, nm_below_base, nm_below_under, nm_below_upper, nm_deeds_done, nm_deeds_kind, nm_deeds_looks, nm_deeds_rows, nm_deeds_seen, nm_deeds_works, nm_divided_kind, nm_divided_looks, nm_divided_sight, nm_divided_table, nm_done_begin, nm_done_begin_rows, nm_done_deeds, nm_done_entries, nm_done_go, nm_done_kind, nm_done_looked, nm_done_looks, nm_done_put, nm_done_rest, nm_done_row, nm_done_rows, nm_done_seen, nm_done_work, nm_done_works, nm_done_wrong, nm_end_ahead, nm_end_ended, nm_end_figures, nm_end_kind, nm_end_last, nm_ended_ahead, nm_ended_end, nm_ended_figures, nm_ended_is_figure, nm_ended_kind, nm_ended_last, nm_ended_parted, nm_ended_put, nm_ended_told, nm_entered_kind, nm_entered_looks, nm_entered_sight, nm_entered_table, nm_entries_done, nm_entries_kind, nm_entries_looks, nm_entries_rows, nm_entries_seen, nm_entries_works, nm_figures_ahead, nm_figures_begin, nm_figures_end, nm_figures_ended, nm_figures_great, nm_figures_is_figure, nm_figures_kind, nm_figures_last, nm_figures_left, nm_figures_looks, nm_figures_numbers, nm_figures_parted, nm_figures_put, nm_figures_rest, nm_figures_stand, nm_figures_told, nm_figures_tried, nm_figures_wide, nm_go_done, nm_go_kind, nm_go_looks, nm_go_rows, nm_go_seen, nm_go_works, nm_great_begin, nm_great_figures, nm_great_kind, nm_great_left, nm_great_looks, nm_great_numbers, nm_great_rest, nm_great_stand, nm_great_tried, nm_great_wide, nm_held_base, nm_held_under, nm_held_upper, nm_is_figure_ahead, nm_is_figure_ended, nm_is_figure_figures, nm_is_figure_kind, nm_is_figure_last, nm_kind_ahead, nm_kind_ask_cell, nm_kind_begin, nm_kind_begin_rows, nm_kind_deeds, nm_kind_divided, nm_kind_done, nm_kind_end, nm_kind_ended, nm_kind_entered, nm_kind_entries, nm_kind_figures, nm_kind_go, nm_kind_great, nm_kind_is_figure, nm_kind_last, nm_kind_left, nm_kind_looked, nm_kind_looks, nm_kind_numbers, nm_kind_parted, nm_kind_put, nm_kind_put_all, nm_kind_rest, nm_kind_row, nm_kind_rows, nm_kind_say, nm_kind_seen, nm_kind_sight, nm_kind_stand, nm_kind_table, nm_kind_told, nm_kind_tried, nm_kind_turned, nm_kind_wide, nm_kind_work, nm_kind_works, nm_kind_wrong, nm_last_ahead, nm_last_end, nm_last_ended, nm_last_figures, nm_last_is_figure, nm_last_kind, nm_last_parted, nm_last_put, nm_last_told, nm_left_begin, nm_left_figures, nm_left_great, nm_left_kind, nm_left_looks, nm_left_numbers, nm_left_rest, nm_left_stand, nm_left_tried, nm_left_wide, nm_look_top, nm_looked_done, nm_looked_kind, nm_looked_looks, nm_looked_rows, nm_looked_seen, nm_looked_sight, nm_looked_table, nm_looked_works, nm_looks_ask_cell, nm_looks_begin, nm_looks_begin_rows, nm_looks_deeds, nm_looks_divided, nm_looks_done, nm_looks_entered, nm_looks_entries, nm_looks_figures, nm_looks_go, nm_looks_great, nm_looks_kind, nm_looks_left, nm_looks_looked, nm_looks_numbers, nm_looks_put, nm_looks_put_all, nm_looks_rest, nm_looks_row, nm_looks_rows, nm_looks_say, nm_looks_seen, nm_looks_sight, nm_looks_stand, nm_looks_table, nm_looks_told, nm_looks_tried, nm_looks_turned, nm_looks_wide, nm_looks_work, nm_looks_works, nm_looks_wrong, nm_numbers_begin, nm_numbers_figures, nm_numbers_great, nm_numbers_kind, nm_numbers_left, nm_numbers_looks, nm_numbers_rest, nm_numbers_stand, nm_numbers_tried, nm_numbers_wide, nm_parted_ahead, nm_parted_ended, nm_parted_figures, nm_parted_kind, nm_parted_last, nm_put_ahead, nm_put_base, nm_put_done, nm_put_ended, nm_put_figures, nm_put_kind, nm_put_last, nm_put_looks, nm_put_rows, nm_put_seen, nm_put_under, nm_put_upper, nm_put_works, nm_put_all_kind, nm_put_all_looks, nm_put_all_sight, nm_put_all_table, nm_rest_done, nm_rest_figures, nm_rest_great, nm_rest_kind, nm_rest_left, nm_rest_looks, nm_rest_numbers, nm_rest_rows, nm_rest_seen, nm_rest_stand, nm_rest_wide, nm_rest_works, nm_row_done, nm_row_kind, nm_row_looks, nm_row_rows, nm_row_seen, nm_row_works, nm_rows_begin, nm_rows_begin_rows, nm_rows_deeds, nm_rows_done, nm_rows_entries, nm_rows_go, nm_rows_kind, nm_rows_looked, nm_rows_looks, nm_rows_put, nm_rows_rest, nm_rows_row, nm_rows_seen, nm_rows_work, nm_rows_works, nm_rows_wrong, nm_say_kind, nm_say_looks, nm_say_sight, nm_say_table, nm_seen_begin, nm_seen_begin_rows, nm_seen_deeds, nm_seen_done, nm_seen_entries, nm_seen_go, nm_seen_kind, nm_seen_looked, nm_seen_looks, nm_seen_put, nm_seen_rest, nm_seen_row, nm_seen_rows, nm_seen_work, nm_seen_works, nm_seen_wrong, nm_sight_ask_cell, nm_sight_divided, nm_sight_entered, nm_sight_kind, nm_sight_looked, nm_sight_looks, nm_sight_put_all, nm_sight_say, nm_sight_table, nm_sight_told, nm_sight_turned, nm_stand_begin, nm_stand_figures, nm_stand_great, nm_stand_kind, nm_stand_left, nm_stand_looks, nm_stand_numbers, nm_stand_rest, nm_stand_tried, nm_stand_wide, nm_table_ask_cell, nm_table_divided, nm_table_entered, nm_table_kind, nm_table_looked, nm_table_looks, nm_table_put_all, nm_table_say, nm_table_sight, nm_table_told, nm_table_turned, nm_told_ahead, nm_told_ended, nm_told_figures, nm_told_kind, nm_told_last, nm_told_looks, nm_told_sight, nm_told_table, nm_top_look, nm_tried_figures, nm_tried_great, nm_tried_kind, nm_tried_left, nm_tried_looks, nm_tried_numbers, nm_tried_stand, nm_tried_wide, nm_turned_kind, nm_turned_looks, nm_turned_sight, nm_turned_table, nm_under_base, nm_under_below, nm_under_held, nm_under_put, nm_under_upper, nm_upper_base, nm_upper_below, nm_upper_held, nm_upper_put, nm_upper_under, nm_wide_begin, nm_wide_figures, nm_wide_great, nm_wide_kind, nm_wide_left, nm_wide_looks, nm_wide_numbers, nm_wide_rest, nm_wide_stand, nm_wide_tried, nm_work_done, nm_work_kind, nm_work_looks, nm_work_rows, nm_work_seen, nm_work_works, nm_works_begin, nm_works_begin_rows, nm_works_deeds, nm_works_done, nm_works_entries, nm_works_go, nm_works_kind, nm_works_looked, nm_works_looks, nm_works_put, nm_works_rest, nm_works_row, nm_works_rows, nm_works_seen, nm_works_work, nm_works_wrong, nm_wrong_done, nm_wrong_kind, nm_wrong_looks, nm_wrong_rows, nm_wrong_seen, nm_wrong_works, sz1, sz2, sz3, sz4, sz5, sz6, sz7, sz8, sz9, sz10, sz11, true_and, ↓run_putP, ↓run_appP, ↓ev_plR, ↓ev_plIx, ↓ev_fz, ↓ev_rep, ↓run_fo, ↓run_wh, ↓ev_ok, ↓ev_opt, ↓ev_var, ↓ev_C, ↓ev_V, ↓ev_slot, ↓ev_op, ↓ev_un, ↓ev_B, ↓ev_not, ↓ev_notV, ↓ev_nil, ↓ev_cons, ↓ev_nilB, ↓ev_consB, ↓ev_tup, ↓ev_lst, ↓ev_B1, ↓ev_sl, ↓ev_P0, ↓ev_P1, ↓ev_Rg1, ↓ev_Rg2, ↓ev_LstRg, ↓ev_It, ↓ev_R1, ↓ev_R2, ↓xv_and, ↓xv_or, ↓xv_andV, ↓xv_orV, ↓xv_if, ↓xv_chain, ↓xv_call, ↓xv_call1, ↓xv_callT, hdC, br_t, br_f, so_some, so_none, so_mapN, so_mapC, lks_eq, rg_z, rg_s, lk0, lkS, st0, stS, entry0, entryS, rep0, repS, res_val, res_slot, so_add, so_sub, so_addN, so_subN, so_mul, so_div, so_mod, so_pow, so_shl, so_shr, so_and, so_or, so_xor, so_lt, so_le, so_gt, so_ge, so_eqI, so_neI, so_neg, so_isN, so_notN, non_n, non_i, non_t, non_l, non_b, non_s, so_ixL, so_ixT, at0, at1, at2, at3, ix0, ix1, ix2, ixN30, ixN31, ixN32, so_tru, so_iof, so_lof, so_itL, so_itT, so_r1, so_r2, so_abs, so_max, so_min, so_intB, so_intI, ii_i, ib_i, ib_b, ii_b, it_t, it_l, il_l, il_t, so_cat, so_inL, so_inT, so_ninL, so_ninT, so_maxI, so_maxT, so_rev, so_bits, so_en, wpD0, wpDC, bk0, bkC, oat0, oatS, so_catD, so_isBl, so_notBl, so_listOfL, so_listOfT, so_listL, so_listT, so_tupL, so_tupT, mx0, mxC, fz0, fzC, flO, flN, noL_i, noL_n, noL_b, noL_s, noL_t, noLs_n, noLs_c, Bool.and_true, Bool.and_self, getP0, setP0, so_ixP0, so_getP1, so_slL, so_lenL, so_lenT, so_gN, Int.cast_ofNat_Int, so_gT, so_gL, ↓ev_fzS, ↓ev_idx, ↓run_forZS, ↓ev_plIxT, scD_b, scD_i, scD_n, fzS0, fzSC, scOO, scON, notNon_t, so_gC, so_gE, Int.toNat_natCast, Int.one_mul, modC_eq, shrC_eq, powC_eq, fits0, fits1, fits2, fits3, fits4, fits5, fits6, fits7, fits8, fits9, fits10, fits11, fits12, fits13, fits14, fits15, fits16, rngC_eq, List.length_cons, List.length_nil, Nat.reduceAdd, Nat.zero_add, List.set_cons_zero, List.set_cons_succ, true_and, and_true, decide_true, decide_false, Bool.not_true, Bool.not_false, Int.reduceLT, Int.reduceSub, Int.reduceAdd, Int.reduceMul, Int.reduceNeg, Int.reduceDiv, Int.reduceMod, Int.reduceEq, Int.reduceLE, Int.reduceToNat, Int.reducePow, nab10, nab2, eq_self])
local macro_rules | `(tactic| walk_at "e") => `(tactic| (simp (config := { dsimp := false }) only [entryS, entry0, repS, rep0]; walk_at "z"))
structure Dk (n : Nat) (d : D) : Prop where
  is : ∃ a b c : Int, d = .list [.int a, .int b, .int c] ∧ 0 ≤ b ∧ b < 2147483579 ∧ 0 ≤ c ∧ c ≤ n
theorem pick_cl {n : Nat} {e : D} {m : Int} {Q : D → List D → Prop} (h : Dk n e) (hn : n ≤ 100000000000) (h1 : divC 0 m = true) (q : ∀ v e', 0 ≤ v → v < m → Dk (n + 1) e' → Q (.int v) [e', .int m]) : Cl F_law_pick [e, .int m] Q := by
  obtain ⟨a, b, c, rfl, hb0, hb1, hc0, hc1⟩ := h.is
  have hm := divC_pos h1
  refine fn_cl rfl ?_
  unfold b_law_pick
  walk_at "e"
  refine br_d (fun h => ?_) fun h => ?_
  · walk_at "z"
    exact ⟨hm, divC_any h1, q _ _ (Int.emod_nonneg _ (by omega)) (Int.emod_lt_of_pos _ hm) ⟨_, _, _, rfl, hb0, hb1, hc0, by omega⟩⟩
  · walk_at "z"
    have p1 : 0 ≤ (b + 15485867 * (c + 1)) ^ 5 % 2147483647 := Int.emod_nonneg _ (by omega)
    have p2 : (b + 15485867 * (c + 1)) ^ 5 % 2147483647 < 2147483647 := Int.emod_lt_of_pos _ (by omega)
    generalize (b + 15485867 * (c + 1)) ^ 5 % 2147483647 = u at *
    have p3 : 0 ≤ (u + 7919 * (c + 1)) ^ 3 % 2147483629 / 32 := Int.ediv_nonneg (Int.emod_nonneg _ (by omega)) (by omega)
    have p4 : (u + 7919 * (c + 1)) ^ 3 % 2147483629 / 32 < 2147483629 := by
      have := Int.emod_lt_of_pos ((u + 7919 * (c + 1)) ^ 3) (by omega : (0 : Int) < 2147483629)
      omega
    refine ⟨mulC_of (m := 24) (n := 64) (by omega) (by omega), by omega, mulC_of (m := 24) (n := 64) (by omega) (by omega), by omega, divL, ?_⟩
    generalize (u + 7919 * (c + 1)) ^ 3 % 2147483629 / 32 = v at *
    refine br_d (fun h => ?_) fun h => ?_
    · walk_at "z"
      exact ⟨mulC_of (m := 64) (n := 64) (by omega) (by omega), hm, q _ _ (Int.emod_nonneg _ (by omega)) (Int.emod_lt_of_pos _ hm) ⟨_, _, _, rfl, hb0, hb1, by omega, by omega⟩⟩
    · walk_at "z"
      exact ⟨hm, q _ _ (Int.emod_nonneg _ (by omega)) (Int.emod_lt_of_pos _ hm) ⟨_, _, _, rfl, hb0, hb1, by omega, by omega⟩⟩
theorem Dk.mono {n m : Nat} {e : D} (h : Dk n e) (hm : n ≤ m) : Dk m e := by
  obtain ⟨a, b, c, rfl, h1, h2, h3, h4⟩ := h.is
  exact ⟨a, b, c, rfl, h1, h2, h3, by omega⟩
theorem deck_cl {n : Nat} {cell t : Int} {Q : D → List D → Prop} (h0 : 0 ≤ t) (h1 : t ≤ n) (q : ∀ e, Dk n e → Q e [.int cell, .int t]) : Cl F_law_deck [.int cell, .int t] Q := by
  refine fn_cl rfl ?_
  unfold b_law_deck
  walk_at "e"
  have p1 : 0 ≤ cell % 2147483579 := Int.emod_nonneg _ (by omega)
  have p2 : cell % 2147483579 < 2147483579 := Int.emod_lt_of_pos _ (by omega)
  refine br_d (fun h => ?_) fun h => ?_
  · walk_at "z"
    exact q _ ⟨_, _, _, rfl, p1, p2, h0, h1⟩
  · walk_at "z"
    exact q _ ⟨_, _, _, rfl, p1, p2, h0, h1⟩
theorem so_atP {l : List D} {i : Int} {Q : D → Prop} (P : D → Prop) (h0 : 0 ≤ i) (h1 : i < l.length) (hP : ∀ x ∈ l, P x) (q : ∀ x, P x → Q x) : So (atI l i) Q :=
  so_at h0 h1 fun v hv => q v (hP v (List.mem_of_getElem? hv))
/-- an int within bounds -/
def Bt (a b : Int) (d : D) : Prop := ∃ v : Int, d = .int v ∧ a ≤ v ∧ v ≤ b
structure Knd (b m : Int) : Prop where
  base : b = 2 ∨ b = 4 ∨ b = 8 ∨ b = 16
  lo : b ≤ 2 * m
  hi : m < b
theorem Knd.b2 {b m : Int} (k : Knd b m) : 2 ≤ b ∧ b ≤ 16 ∧ 1 ≤ m ∧ m ≤ 15 := by
  have := k.lo
  have := k.hi
  rcases k.base with h | h | h | h <;> omega
theorem kind_cl {n : Nat} {e : D} {Q : D → List D → Prop} (h : Dk n e) (hn : n ≤ 10000000000) (q : ∀ b m e', Knd b m → Dk (n + 2) e' → Q (.tuple [.int b, .int m]) [e']) : Cl F_law_kind [e] Q := by
  refine fn_cl rfl ?_
  unfold b_law_kind
  walk_at "e"
  refine pick_cl h (by omega) divL fun v e1 v0 v1 h1 => ?_
  walk_at "z"
  refine so_atP (fun d => ∃ b : Int, d = .int b ∧ (b = 2 ∨ b = 4 ∨ b = 8 ∨ b = 16)) v0 (by simpa using v1) (by simp) fun d hd => ?_
  obtain ⟨b, rfl, hb⟩ := hd
  walk_at "z"
  refine ⟨divL, divL, ?_⟩
  refine pick_cl h1 (by omega) (divC_of (n := 5) (by omega) (by omega)) fun m e2 m0 m1 h2 => ?_
  walk_at "z"
  exact q _ _ _ ⟨hb, by omega, by omega⟩ h2
/-! ### rows of a worth -/
/-- the sum over the figures, the first j of them -/
def pSum (m : Int) (h : Int → Int) : Nat → Int
  | 0 => 0
  | j + 1 => pSum m h j + h (-m + j)
/-- over all -/
def sFig (m : Int) (h : Int → Int) : Int := pSum m h (2 * m + 1).toNat
/-- what stands behind one figure less -/
def Uop (b m : Int) (g : Int → Int) (x : Int) : Int := sFig m fun f => if (x - f) % b = 0 then g ((x - f) / b) else 0
def Top (b m : Int) (g : Int → Int) (k : Int) : Int := sFig m fun f => g (k * b + f)
def dlt (x : Int) : Int → Int := fun y => if y = x then 1 else 0
def cntN (b m : Int) : Nat → Int → Int
  | 0 => dlt 0
  | c + 1 => Uop b m (cntN b m c)
def powT (b m : Int) : Nat → (Int → Int) → Int
  | 0, g => g 0
  | c + 1, g => powT b m c (Top b m g)
theorem pSum_add {m : Int} {h k : Int → Int} : ∀ j, pSum m (fun f => h f + k f) j = pSum m h j + pSum m k j
  | 0 => rfl
  | j + 1 => by
    show pSum m (fun f => h f + k f) j + (h (-m + j) + k (-m + j)) = (pSum m h j + h (-m + j)) + (pSum m k j + k (-m + j))
    rw [pSum_add j]
    omega
theorem pSum_congr {m : Int} {h k : Int → Int} : ∀ j : Nat, (∀ i : Nat, i < j → h (-m + i) = k (-m + i)) → pSum m h j = pSum m k j
  | 0, _ => rfl
  | j + 1, e => by
    show pSum m h j + _ = pSum m k j + _
    rw [pSum_congr j fun i hi => e i (by omega), e j (by omega)]
theorem pSum_zero {m : Int} : ∀ j, pSum m (fun _ => 0) j = 0
  | 0 => rfl
  | j + 1 => by
    show pSum m (fun _ => 0) j + 0 = 0
    rw [pSum_zero j]; rfl
theorem pSum_cons {m : Int} {h : Int → Int} : ∀ j, pSum m h (j + 1) = h (-m) + pSum m (fun f => h (f + 1)) j
  | 0 => by
    show 0 + h (-m + ((0 : Nat) : Int)) = h (-m) + 0
    rw [show -m + ((0 : Nat) : Int) = -m by omega]; omega
  | j + 1 => by
    show pSum m h (j + 1) + h (-m + ((j + 1 : Nat) : Int)) = h (-m) + (pSum m (fun f => h (f + 1)) j + h (-m + j + 1))
    rw [pSum_cons j, show -m + ((j + 1 : Nat) : Int) = -m + j + 1 by omega]
    omega
/-- from the other side -/
theorem pSum_rev {m : Int} : ∀ (j : Nat) (h : Int → Int), pSum m h j = pSum m (fun f => h (-m + (j : Int) - 1 - (f + m))) j
  | 0, _ => rfl
  | j + 1, h => by
    have e := pSum_cons (m := m) (h := fun f => h (-m + ((j + 1 : Nat) : Int) - 1 - (f + m))) j
    rw [e]
    show pSum m h j + h (-m + j) = _
    rw [pSum_rev j h]
    have : pSum m (fun f => h (-m + (j : Int) - 1 - (f + m))) j = pSum m (fun f => h (-m + ((j + 1 : Nat) : Int) - 1 - (f + 1 + m))) j := pSum_congr j fun i _ => by
      congr 1; omega
    rw [this, show -m + ((j + 1 : Nat) : Int) - 1 - (-m + m) = -m + j by omega]
    omega
theorem sFig_neg {m : Int} (hm : 0 ≤ m) (h : Int → Int) : sFig m (fun f => h (-f)) = sFig m h := by
  unfold sFig
  rw [pSum_rev _ h]
  refine pSum_congr _ fun i hi => ?_
  congr 1
  omega
theorem emod_neg0 {a b : Int} (h : a % b = 0) : (-a) % b = 0 ∧ (-a) / b = -(a / b) := by
  obtain ⟨c, rfl⟩ := Int.dvd_of_emod_eq_zero h
  by_cases z : b = 0
  · subst z; simp
  · refine ⟨by rw [Int.neg_emod_eq_sub_emod]; simp, ?_⟩
    rw [← Int.mul_neg, Int.mul_ediv_cancel_left _ z, Int.mul_ediv_cancel_left _ z]
theorem cntN_neg {b m : Int} (hm : 0 ≤ m) : ∀ (c : Nat) (x : Int), cntN b m c (-x) = cntN b m c x
  | 0, x => by
    show (if -x = 0 then (1 : Int) else 0) = if x = 0 then 1 else 0
    by_cases z : x = 0
    · rw [if_pos z, if_pos (by omega)]
    · rw [if_neg z, if_neg (by omega)]
  | c + 1, x => by
    show Uop b m (cntN b m c) (-x) = Uop b m (cntN b m c) x
    unfold Uop
    rw [← sFig_neg hm]
    unfold sFig
    refine pSum_congr _ fun i _ => ?_
    generalize -m + (i : Int) = f
    by_cases z : (x - f) % b = 0
    · obtain ⟨z1, z2⟩ := emod_neg0 z
      have e : -x - -f = -(x - f) := by omega
      rw [e, if_pos z1, if_pos z, z2, cntN_neg hm c]
    · rw [if_neg z, if_neg]
      intro y
      refine z ?_
      have e : x - f = -(-x - -f) := by omega
      rw [e]
      exact (emod_neg0 y).1
/-- sums go through -/
theorem Top_add {b m : Int} {g h : Int → Int} (k : Int) : Top b m (fun x => g x + h x) k = Top b m g k + Top b m h k := pSum_add _
theorem powT_add {b m : Int} : ∀ (c : Nat) (g h : Int → Int), powT b m c (fun x => g x + h x) = powT b m c g + powT b m c h
  | 0, _, _ => rfl
  | c + 1, g, h => by
    show powT b m c (Top b m fun x => g x + h x) = powT b m c (Top b m g) + powT b m c (Top b m h)
    rw [← powT_add c]
    congr 1
    funext k
    exact Top_add k
theorem Top_zero {b m : Int} (k : Int) : Top b m (fun _ => 0) k = 0 := pSum_zero _
theorem powT_zero {b m : Int} : ∀ c : Nat, powT b m c (fun _ => 0) = 0
  | 0 => rfl
  | c + 1 => by
    show powT b m c (Top b m fun _ => 0) = 0
    have : Top b m (fun _ => 0) = fun _ => 0 := funext fun k => Top_zero k
    rw [this, powT_zero c]
theorem powT_sum {b m : Int} (c : Nat) (G : Int → Int → Int) : ∀ j : Nat, powT b m c (fun k => pSum m (fun f => G f k) j) = pSum m (fun f => powT b m c (G f)) j
  | 0 => powT_zero c
  | j + 1 => by
    show powT b m c (fun k => pSum m (fun f => G f k) j + G (-m + j) k) = _
    rw [powT_add c, powT_sum c G j]
    rfl
theorem powT_cnt {b m : Int} (hb : 0 < b) : ∀ (c : Nat) (x : Int), powT b m c (dlt x) = cntN b m c x
  | 0, x => by
    show (if (0 : Int) = x then (1 : Int) else 0) = if x = 0 then 1 else 0
    by_cases z : x = 0
    · rw [if_pos z, if_pos z.symm]
    · rw [if_neg z, if_neg fun y => z y.symm]
  | c + 1, x => by
    show powT b m c (Top b m (dlt x)) = sFig m fun f => if (x - f) % b = 0 then cntN b m c ((x - f) / b) else 0
    have e : Top b m (dlt x) = fun k => pSum m (fun f => if (x - f) % b = 0 then dlt ((x - f) / b) k else 0) (2 * m + 1).toNat := by
      funext k
      show pSum m (fun f => dlt x (k * b + f)) _ = _
      refine pSum_congr _ fun i _ => ?_
      generalize -m + (i : Int) = f
      show (if k * b + f = x then (1 : Int) else 0) = if (x - f) % b = 0 then (if k = (x - f) / b then 1 else 0) else 0
      by_cases z : k * b + f = x
      · have e1 : x - f = k * b := by omega
        rw [if_pos z, e1, if_pos (Int.mul_emod_left k b), Int.mul_ediv_cancel _ (by omega), if_pos rfl]
      · rw [if_neg z]
        by_cases y : (x - f) % b = 0
        · rw [if_pos y, if_neg]
          intro w
          have := Int.ediv_mul_cancel (Int.dvd_of_emod_eq_zero y)
          rw [← w] at this
          omega
        · rw [if_neg y]
    rw [e, powT_sum c]
    unfold sFig
    refine pSum_congr _ fun i _ => ?_
    generalize -m + (i : Int) = f
    by_cases y : (x - f) % b = 0
    · simp only [if_pos y]
      exact powT_cnt hb c _
    · simp only [if_neg y]
      exact powT_zero c
/-! ### a dict of counts -/
def lget (k : Int) : List (Int × Int) → Int
  | [] => 0
  | (a, v) :: r => if a = k then v else lget k r
def lhas (k : Int) : List (Int × Int) → Bool
  | [] => false
  | (a, _) :: r => decide (a = k) || lhas k r
def lput (k v : Int) (l : List (Int × Int)) : List (Int × Int) := if lhas k l then l.map (fun p => if p.1 = k then (p.1, v) else p) else l ++ [(k, v)]
def sv (l : List (Int × Int)) (g : Int → Int) : Int := (l.map fun p => p.2 * g p.1).sum
def dI (l : List (Int × Int)) : List (D × D) := l.map fun p => (.int p.1, .int p.2)
theorem lget_c {k a v : Int} {r : List (Int × Int)} : lget k ((a, v) :: r) = if a = k then v else lget k r := rfl
theorem lhas_c {k a v : Int} {r : List (Int × Int)} : lhas k ((a, v) :: r) = (decide (a = k) || lhas k r) := rfl
theorem dI_get (k : Int) : ∀ l, dget (.int k) (dI l) = if lhas k l then some (.int (lget k l)) else none
  | [] => rfl
  | (a, v) :: r => by
    show (if keq (.int a) (.int k) then some (PyData.int v) else dget (.int k) (dI r)) = _
    have e : keq (.int a) (.int k) = decide (a = k) := by simp [keq]
    rw [e]
    rw [lhas_c, lget_c]
    by_cases z : a = k
    · simp [z]
    · simp only [z, decide_false, Bool.false_or, if_false]
      exact dI_get k r
theorem lget_no (k : Int) : ∀ l, lhas k l = false → lget k l = 0
  | [], _ => rfl
  | (a, v) :: r, h => by
    rw [lhas_c] at h
    rw [Bool.or_eq_false_iff] at h
    rw [lget_c]
    rw [if_neg (by simpa using h.1)]
    exact lget_no k r h.2
theorem dI_getD (k : Int) (l : List (Int × Int)) : (dget (.int k) (dI l)).getD (.int 0) = .int (lget k l) := by
  rw [dI_get]
  cases h : lhas k l with
  | true => rfl
  | false => rw [lget_no k l h]; rfl
theorem dI_put (k v : Int) (l : List (Int × Int)) : dput (.int k) (.int v) (dI l) = dI (lput k v l) := by
  unfold dput lput
  rw [dI_get]
  cases h : lhas k l with
  | true =>
    simp only [if_true, Option.isSome_some]
    unfold dI
    rw [List.map_map, List.map_map]
    refine List.map_congr_left fun p _ => ?_
    show (if keq (.int p.1) (.int k) then (PyData.int p.1, PyData.int v) else (PyData.int p.1, PyData.int p.2)) = _
    have e : keq (.int p.1) (.int k) = decide (p.1 = k) := by simp [keq]
    rw [e]
    show _ = (PyData.int (if p.1 = k then (p.1, v) else p).1, PyData.int (if p.1 = k then (p.1, v) else p).2)
    by_cases z : p.1 = k
    · simp [z]
    · simp [z]
  | false =>
    simp only [Bool.false_eq_true, if_false, Option.isSome_none]
    unfold dI
    rw [List.map_append]
    rfl
theorem lhas_mem (k : Int) : ∀ l : List (Int × Int), lhas k l = true ↔ k ∈ l.map (·.1)
  | [] => by simp [lhas]
  | (a, v) :: r => by
    rw [lhas_c, Bool.or_eq_true, decide_eq_true_eq, List.map_cons, List.mem_cons, lhas_mem k r]
    constructor
    · rintro (h | h)
      · exact .inl h.symm
      · exact .inr h
    · rintro (h | h)
      · exact .inl h.symm
      · exact .inr h
/-- a dict of counts: each key once -/
def Nk (l : List (Int × Int)) : Prop := (l.map (·.1)).Nodup
theorem lput_keys (k v : Int) (l : List (Int × Int)) : (lput k v l).map (·.1) = if lhas k l then l.map (·.1) else l.map (·.1) ++ [k] := by
  unfold lput
  cases lhas k l with
  | true =>
    simp only [if_true]
    rw [List.map_map]
    refine List.map_congr_left fun p _ => ?_
    show (if p.1 = k then (p.1, v) else p).1 = p.1
    split <;> rfl
  | false => simp
theorem Nk.put {l : List (Int × Int)} (h : Nk l) (k v : Int) : Nk (lput k v l) := by
  unfold Nk
  rw [lput_keys]
  cases z : lhas k l with
  | true => exact h
  | false =>
    simp only [Bool.false_eq_true, if_false]
    rw [List.nodup_append]
    refine ⟨h, by simp, fun a ha b hb e => ?_⟩
    rw [List.mem_singleton] at hb
    subst e hb
    rw [(lhas_mem _ _).mpr ha] at z
    cases z
theorem sv_cons (p : Int × Int) (l : List (Int × Int)) (g : Int → Int) : sv (p :: l) g = p.2 * g p.1 + sv l g := by
  unfold sv; rw [List.map_cons, List.sum_cons]
theorem sv_snoc (p : Int × Int) (l : List (Int × Int)) (g : Int → Int) : sv (l ++ [p]) g = sv l g + p.2 * g p.1 := by
  unfold sv; rw [List.map_append, List.sum_append]; simp
theorem sv_repl (k v : Int) (g : Int → Int) : ∀ l : List (Int × Int), Nk l → sv (l.map fun p => if p.1 = k then (p.1, v) else p) g = sv l g + (if lhas k l then (v - lget k l) * g k else 0)
  | [], _ => by simp [sv, lhas]
  | (a, w) :: r, h => by
    have h' : a ∉ r.map (·.1) ∧ (r.map (·.1)).Nodup := List.nodup_cons.mp h
    rw [List.map_cons, sv_cons, sv_cons, sv_repl k v g r h'.2]
    rw [lhas_c, lget_c]
    by_cases z : a = k
    · subst z
      have hn : lhas a r = false := by
        cases y : lhas a r with
        | false => rfl
        | true => exact absurd ((lhas_mem a r).mp y) h'.1
      simp only [if_true, decide_true, Bool.true_or, hn, Bool.false_eq_true, if_false]
      rw [Int.sub_mul]; omega
    · simp only [z, if_false, decide_false, Bool.false_or]
      split <;> omega
/-- one more is counted -/
theorem sv_put {l : List (Int × Int)} (h : Nk l) (k w : Int) (g : Int → Int) : sv (lput k (lget k l + w) l) g = sv l g + w * g k := by
  unfold lput
  cases z : lhas k l with
  | true =>
    simp only [if_true]
    rw [sv_repl k _ g l h, z]
    simp only [if_true]
    rw [show lget k l + w - lget k l = w by omega]
  | false =>
    simp only [Bool.false_eq_true, if_false]
    rw [sv_snoc, lget_no k l z]
    show _ + (0 + w) * g k = _
    rw [Int.zero_add]
theorem sv_dlt {l : List (Int × Int)} (h : Nk l) (x : Int) : sv l (dlt x) = lget x l := by
  induction l with
  | nil => rfl
  | cons p r ih =>
    obtain ⟨a, v⟩ := p
    have h' : a ∉ r.map (·.1) ∧ (r.map (·.1)).Nodup := List.nodup_cons.mp h
    rw [sv_cons, ih h'.2]
    rw [lget_c]
    show v * (if a = x then 1 else 0) + _ = _
    by_cases z : a = x
    · subst z
      have hn : lhas a r = false := by
        cases y : lhas a r with
        | false => rfl
        | true => exact absurd ((lhas_mem a r).mp y) h'.1
      rw [if_pos rfl, if_pos rfl, lget_no a r hn]; omega
    · rw [if_neg z, if_neg z]; omega
theorem lget_at {l : List (Int × Int)} (h : Nk l) {i : Nat} {k v : Int} (e : l[i]? = some (k, v)) : lhas k l = true ∧ lget k l = v := by
  induction l generalizing i with
  | nil => simp at e
  | cons p r ih =>
    obtain ⟨a, w⟩ := p
    have h' : a ∉ r.map (·.1) ∧ (r.map (·.1)).Nodup := List.nodup_cons.mp h
    rw [lhas_c, lget_c]
    cases i with
    | zero => simp at e; obtain ⟨rfl, rfl⟩ := e; simp
    | succ i =>
      have e' : r[i]? = some (k, v) := by simpa using e
      obtain ⟨h1, h2⟩ := ih h'.2 e'
      have hk : a ≠ k := fun z => by
        subst z
        exact h'.1 ((lhas_mem a r).mp h1)
      rw [if_neg hk, h1]
      exact ⟨by simp, h2⟩
theorem lput_len (k v : Int) (l : List (Int × Int)) : (lput k v l).length ≤ l.length + 1 := by
  unfold lput
  split
  · rw [List.length_map]; omega
  · rw [List.length_append]; simp
theorem lput_ne (k v : Int) (l : List (Int × Int)) : lput k v l ≠ [] := by
  unfold lput
  cases h : lhas k l with
  | true =>
    intro e
    cases l with
    | nil => cases h
    | cons p r => cases e
  | false => intro e; simp at e
theorem lput_mem {k v : Int} {l : List (Int × Int)} {x : Int} (h : x ∈ (lput k v l).map (·.1)) : x ∈ l.map (·.1) ∨ x = k := by
  rw [lput_keys] at h
  cases z : lhas k l with
  | true => rw [z] at h; exact .inl (by simpa using h)
  | false =>
    rw [z] at h
    simp only [Bool.false_eq_true, if_false] at h
    rcases List.mem_append.mp h with h | h
    · exact .inl h
    · exact .inr (by simpa using h)
theorem sv_take {l : List (Int × Int)} {i : Nat} {p : Int × Int} (e : l[i]? = some p) (g : Int → Int) : sv (l.take (i + 1)) g = sv (l.take i) g + p.2 * g p.1 := by
  rw [List.take_succ, e]
  show sv (l.take i ++ [p]) g = _
  exact sv_snoc p _ g
theorem nodup3 {l : List Int} {L : Int} (h : l.Nodup) (hb : ∀ x ∈ l, L ≤ x ∧ x ≤ L + 2) : l.length ≤ 3 := by
  match l, h with
  | [], _ => simp
  | [_], _ => simp
  | [_, _], _ => simp
  | [_, _, _], _ => simp
  | a :: b :: c :: d :: r, h =>
    exfalso
    have ha := hb a (by simp)
    have hb' := hb b (by simp)
    have hc := hb c (by simp)
    have hd := hb d (by simp)
    simp only [List.nodup_cons, List.mem_cons, not_or] at h
    omega
end S
set_option Elab.async false
set_option linter.all false
set_option maxRecDepth 100000
set_option maxHeartbeats 1000000
namespace S
open PySem L2 Z
local macro_rules | `(tactic| walk_at "z") => `(tactic| try simp (config := { dsimp := false }) only [↓ev_dget, ↓ev_dget2, ↓ev_din, ↓run_dput, ↓ev_dnew, ↓ev_disp, ↓ev_prs0, ↓ev_prsC, ↓ev_keysS, ↓run_lock, ↓ev_maxD, ↓ev_dlen, ↓ev_sortD, so_dct, ky_i, ky_p, ky_n, prs1, dput0, flN0, flC0, ↓run_setX, ↓run_dropX, ↓run_retX, ↓run_asgX, ↓run_raise, ↓run_raiseF, ↓run_tryAs, ↓run_tryOnly, ↓evX_of, ↓xv_xcall, ↓xv_xcall1, ↓xv_xcallG, ↓xv_xmeth, ↓xv_xop, ↓xv_xtup, ↓xv_xif, ↓xv_xlc, ↓ev_rev, ↓run_when, yesD_t, nonB_n, notNon_l, ↓ev_here, ↓ev_zip, ↓ev_zip1, ↓ev_join, so_two, ↓run_nx, ↓run_no, ↓run_bk, ↓run_ct, ↓run_seq, ↓run_set, ↓run_drop, ↓run_ret, ↓run_asg, ↓run_app, ↓run_put, ↓run_aug, ↓run_frz, ↓run_kill, ↓xr_if, ↓ev_lc, ↓ev_yes, ↓run_ext, ↓ev_enum, ↓run_asgT, ↓run_retM, ↓run_fld, ↓ev_fld, ↓ev_at, ↓xv_callG, ↓xv_tupG, ↓xv_meth, ↓xv_make, ↓ev_move, so_tof, so_nonO, so_fillN, so_fillE, so_fillS, bkG0, bkGE, bkGF, bkGT, stD0, stDC, so_dof, so_noFd, fdN, fdC, fdE, fdO, ptN, ptC, ptE, ptO, nm_ahead_end, nm_ahead_ended, nm_ahead_figures, nm_ahead_is_figure, nm_ahead_kind, nm_ahead_last, nm_ahead_parted, nm_ahead_put, nm_ahead_told, nm_ask_cell_kind, nm_ask_cell_looks, nm_ask_cell_sight, nm_ask_cell_table, nm_base_below, nm_base_held, nm_base_put, nm_base_under, nm_base_upper, nm_begin_done, nm_begin_figures, nm_begin_great, nm_begin_kind, nm_begin_left, nm_begin_looks, nm_begin_numbers, nm_begin_rows, nm_begin_seen, nm_begin_stand, nm_begin_wide, nm_begin_works, nm_begin_rows_done, nm_begin_rows_kind, nm_begin_rows_looks, nm_begin_rows_rows, nm_begin_rows_seen, nm_begin_rows_works, nm_below_base, nm_below_under, nm_below_upper, nm_deeds_done, nm_deeds_kind, nm_deeds_looks, nm_deeds_rows, nm_deeds_seen, nm_deeds_works, nm_divided_kind, nm_divided_looks, nm_divided_sight, nm_divided_table, nm_done_begin, nm_done_begin_rows, nm_done_deeds, nm_done_entries, nm_done_go, nm_done_kind, nm_done_looked, nm_done_looks, nm_done_put, nm_done_rest, nm_done_row, nm_done_rows, nm_done_seen, nm_done_work, nm_done_works, nm_done_wrong, nm_end_ahead, nm_end_ended, nm_end_figures, nm_end_kind, nm_end_last, nm_ended_ahead, nm_ended_end, nm_ended_figures, nm_ended_is_figure, nm_ended_kind, nm_ended_last, nm_ended_parted, nm_ended_put, nm_ended_told, nm_entered_kind, nm_entered_looks, nm_entered_sight, nm_entered_table, nm_entries_done, nm_entries_kind, nm_entries_looks, nm_entries_rows, nm_entries_seen, nm_entries_works, nm_figures_ahead, nm_figures_begin, nm_figures_end, nm_figures_ended, nm_figures_great, nm_figures_is_figure, nm_figures_kind, nm_figures_last, nm_figures_left, nm_figures_looks, nm_figures_numbers, nm_figures_parted, nm_figures_put, nm_figures_rest, nm_figures_stand, nm_figures_told, nm_figures_tried, nm_figures_wide, nm_go_done, nm_go_kind, nm_go_looks, nm_go_rows, nm_go_seen, nm_go_works, nm_great_begin, nm_great_figures, nm_great_kind, nm_great_left, nm_great_looks, nm_great_numbers, nm_great_rest, nm_great_stand, nm_great_tried, nm_great_wide, nm_held_base, nm_held_under, nm_held_upper, nm_is_figure_ahead, nm_is_figure_ended, nm_is_figure_figures, nm_is_figure_kind, nm_is_figure_last, nm_kind_ahead, nm_kind_ask_cell, nm_kind_begin, nm_kind_begin_rows, nm_kind_deeds, nm_kind_divided, nm_kind_done, nm_kind_end, nm_kind_ended, nm_kind_entered, nm_kind_entries, nm_kind_figures, nm_kind_go, nm_kind_great, nm_kind_is_figure, nm_kind_last, nm_kind_left, nm_kind_looked, nm_kind_looks, nm_kind_numbers, nm_kind_parted, nm_kind_put, nm_kind_put_all, nm_kind_rest, nm_kind_row, nm_kind_rows, nm_kind_say, nm_kind_seen, nm_kind_sight, nm_kind_stand, nm_kind_table, nm_kind_told, nm_kind_tried, nm_kind_turned, nm_kind_wide, nm_kind_work, nm_kind_works, nm_kind_wrong, nm_last_ahead, nm_last_end, nm_last_ended, nm_last_figures, nm_last_is_figure, nm_last_kind, nm_last_parted, nm_last_put, nm_last_told, nm_left_begin, nm_left_figures, nm_left_great, nm_left_kind, nm_left_looks, nm_left_numbers, nm_left_rest, nm_left_stand, nm_left_tried, nm_left_wide, nm_look_top, nm_looked_done, nm_looked_kind, nm_looked_looks, nm_looked_rows, nm_looked_seen, nm_looked_sight, nm_looked_table, nm_looked_works, nm_looks_ask_cell, nm_looks_begin, nm_looks_begin_rows, nm_looks_deeds, nm_looks_divided, nm_looks_done, nm_looks_entered, nm_looks_entries, nm_looks_figures, nm_looks_go, nm_looks_great, nm_looks_kind, nm_looks_left, nm_looks_looked, nm_looks_numbers, nm_looks_put, nm_looks_put_all, nm_looks_rest, nm_looks_row, nm_looks_rows, nm_looks_say, nm_looks_seen, nm_looks_sight, nm_looks_stand, nm_looks_table, nm_looks_told, nm_looks_tried, nm_looks_turned, nm_looks_wide, nm_looks_work, nm_looks_works, nm_looks_wrong, nm_numbers_begin, nm_numbers_figures, nm_numbers_great, nm_numbers_kind, nm_numbers_left, nm_numbers_looks, nm_numbers_rest, nm_numbers_stand, nm_numbers_tried, nm_numbers_wide, nm_parted_ahead, nm_parted_ended, nm_parted_figures, nm_parted_kind, nm_parted_last, nm_put_ahead, nm_put_base, nm_put_done, nm_put_ended, nm_put_figures, nm_put_kind, nm_put_last, nm_put_looks, nm_put_rows, nm_put_seen, nm_put_under, nm_put_upper, nm_put_works, nm_put_all_kind, nm_put_all_looks, nm_put_all_sight, nm_put_all_table, nm_rest_done, nm_rest_figures, nm_rest_great, nm_rest_kind, nm_rest_left, nm_rest_looks, nm_rest_numbers, nm_rest_rows, nm_rest_seen, nm_rest_stand, nm_rest_wide, nm_rest_works, nm_row_done, nm_row_kind, nm_row_looks, nm_row_rows, nm_row_seen, nm_row_works, nm_rows_begin, nm_rows_begin_rows, nm_rows_deeds, nm_rows_done, nm_rows_entries, nm_rows_go, nm_rows_kind, nm_rows_looked, nm_rows_looks, nm_rows_put, nm_rows_rest, nm_rows_row, nm_rows_seen, nm_rows_work, nm_rows_works, nm_rows_wrong, nm_say_kind, nm_say_looks, nm_say_sight, nm_say_table, nm_seen_begin, nm_seen_begin_rows, nm_seen_deeds, nm_seen_done, nm_seen_entries, nm_seen_go, nm_seen_kind, nm_seen_looked, nm_seen_looks, nm_seen_put, nm_seen_rest, nm_seen_row, nm_seen_rows, nm_seen_work, nm_seen_works, nm_seen_wrong, nm_sight_ask_cell, nm_sight_divided, nm_sight_entered, nm_sight_kind, nm_sight_looked, nm_sight_looks, nm_sight_put_all, nm_sight_say, nm_sight_table, nm_sight_told, nm_sight_turned, nm_stand_begin, nm_stand_figures, nm_stand_great, nm_stand_kind, nm_stand_left, nm_stand_looks, nm_stand_numbers, nm_stand_rest, nm_stand_tried, nm_stand_wide, nm_table_ask_cell, nm_table_divided, nm_table_entered, nm_table_kind, nm_table_looked, nm_table_looks, nm_table_put_all, nm_table_say, nm_table_sight, nm_table_told, nm_table_turned, nm_told_ahead, nm_told_ended, nm_told_figures, nm_told_kind, nm_told_last, nm_told_looks, nm_told_sight, nm_told_table, nm_top_look, nm_tried_figures, nm_tried_great, nm_tried_kind, nm_tried_left, nm_tried_looks, nm_tried_numbers, nm_tried_stand, nm_tried_wide, nm_turned_kind, nm_turned_looks, nm_turned_sight, nm_turned_table, nm_under_base, nm_under_below, nm_under_held, nm_under_put, nm_under_upper, nm_upper_base, nm_upper_below, nm_upper_held, nm_upper_put, nm_upper_under, nm_wide_begin, nm_wide_figures, nm_wide_great, nm_wide_kind, nm_wide_left, nm_wide_looks, nm_wide_numbers, nm_wide_rest, nm_wide_stand, nm_wide_tried, nm_work_done, nm_work_kind, nm_work_looks, nm_work_rows, nm_work_seen, nm_work_works, nm_works_begin, nm_works_begin_rows, nm_works_deeds, nm_works_done, nm_works_entries, nm_works_go, nm_works_kind, nm_works_looked, nm_works_looks, nm_works_put, nm_works_rest, nm_works_row, nm_works_rows, nm_works_seen, nm_works_work, nm_works_wrong, nm_wrong_done, nm_wrong_kind, nm_wrong_looks, nm_wrong_rows, nm_wrong_seen, nm_wrong_works, sz1, sz2, sz3, sz4, sz5, sz6, sz7, sz8, sz9, sz10, sz11, true_and, ↓run_putP, ↓run_appP, ↓ev_plR, ↓ev_plIx, ↓ev_fz, ↓ev_rep, ↓run_fo, ↓run_wh, ↓ev_ok, ↓ev_opt, ↓ev_var, ↓ev_C, ↓ev_V, ↓ev_slot, ↓ev_op, ↓ev_un, ↓ev_B, ↓ev_not, ↓ev_notV, ↓ev_nil, ↓ev_cons, ↓ev_nilB, ↓ev_consB, ↓ev_tup, ↓ev_lst, ↓ev_B1, ↓ev_sl, ↓ev_P0, ↓ev_P1, ↓ev_Rg1, ↓ev_Rg2, ↓ev_LstRg, ↓ev_It, ↓ev_R1, ↓ev_R2, ↓xv_and, ↓xv_or, ↓xv_andV, ↓xv_orV, ↓xv_if, ↓xv_chain, ↓xv_call, ↓xv_call1, ↓xv_callT, hdC, br_t, br_f, so_some, so_none, so_mapN, so_mapC, lks_eq, rg_z, rg_s, lk0, lkS, st0, stS, entry0, entryS, rep0, repS, res_val, res_slot, so_add, so_sub, so_addN, so_subN, so_mul, so_div, so_mod, so_pow, so_shl, so_shr, so_and, so_or, so_xor, so_lt, so_le, so_gt, so_ge, so_eqI, so_neI, so_neg, so_isN, so_notN, non_n, non_i, non_t, non_l, non_b, non_s, so_ixL, so_ixT, at0, at1, at2, at3, ix0, ix1, ix2, ixN30, ixN31, ixN32, so_tru, so_iof, so_lof, so_itL, so_itT, so_r1, so_r2, so_abs, so_max, so_min, so_intB, so_intI, ii_i, ib_i, ib_b, ii_b, it_t, it_l, il_l, il_t, so_cat, so_inL, so_inT, so_ninL, so_ninT, so_maxI, so_maxT, so_rev, so_bits, so_en, wpD0, wpDC, bk0, bkC, oat0, oatS, so_catD, so_isBl, so_notBl, so_listOfL, so_listOfT, so_listL, so_listT, so_tupL, so_tupT, mx0, mxC, fz0, fzC, flO, flN, noL_i, noL_n, noL_b, noL_s, noL_t, noLs_n, noLs_c, Bool.and_true, Bool.and_self, getP0, setP0, so_ixP0, so_getP1, so_slL, so_lenL, so_lenT, so_gN, Int.cast_ofNat_Int, so_gT, so_gL, ↓ev_fzS, ↓ev_idx, ↓run_forZS, ↓ev_plIxT, scD_b, scD_i, scD_n, fzS0, fzSC, scOO, scON, notNon_t, so_gC, so_gE, Int.toNat_natCast, Int.one_mul, modC_eq, shrC_eq, powC_eq, fits0, fits1, fits2, fits3, fits4, fits5, fits6, fits7, fits8, fits9, fits10, fits11, fits12, fits13, fits14, fits15, fits16, rngC_eq, List.length_cons, List.length_nil, Nat.reduceAdd, Nat.zero_add, List.set_cons_zero, List.set_cons_succ, true_and, and_true, decide_true, decide_false, Bool.not_true, Bool.not_false, Int.reduceLT, Int.reduceSub, Int.reduceAdd, Int.reduceMul, Int.reduceNeg, Int.reduceDiv, Int.reduceMod, Int.reduceEq, Int.reduceLE, Int.reduceToNat, Int.reducePow, nab10, nab2, eq_self])
local macro_rules | `(tactic| walk_at "e") => `(tactic| (simp (config := { dsimp := false }) only [entryS, entry0, repS, rep0]; walk_at "z"))
theorem so_dgI {k : Int} {l : List (Int × Int)} {Q : D → Prop} (h : lhas k l = true) : So (dget (.int k) (dI l)) Q = Q (.int (lget k l)) := by
  rw [dI_get, h]; exact so_some
theorem dI_len (l : List (Int × Int)) : (dI l).length = l.length := List.length_map _
theorem dI_keys {l : List (Int × Int)} {i : Nat} {d : D} (h : ((dI l).map (·.1))[i]? = some d) : ∃ k v, l[i]? = some (k, v) ∧ d = .int k := by
  unfold dI at h
  rw [List.map_map, List.getElem?_map] at h
  cases e : l[i]? with
  | none => rw [e] at h; cases h
  | some p => rw [e] at h; cases h; exact ⟨p.1, p.2, rfl, rfl⟩
theorem keyR {b m k L a : Int} (kd : Knd b m) (h1 : L ≤ k ∧ k ≤ L + 2) {f : Int} (hf : -m ≤ f ∧ f ≤ m) (h : k - f = b * a) : L / b ≤ a ∧ a ≤ L / b + 2 := by
  have hm := kd.hi
  have hb : 0 < b := by have := kd.b2; omega
  have e1 := Int.mul_ediv_add_emod L b
  have e2 := Int.emod_nonneg L (by omega : b ≠ 0)
  have e3 := Int.emod_lt_of_pos L hb
  generalize L / b = q at *
  generalize L % b = r at *
  have key : b * a - b * q ≤ 2 + r + m ∧ -m + r ≤ b * a - b * q := by omega
  refine ⟨?_, ?_⟩
  · refine Int.le_of_lt_add_one (Int.lt_of_mul_lt_mul_left ?_ (Int.le_of_lt hb) : q < a + 1)
    rw [Int.mul_add]
    omega
  · refine Int.le_of_lt_add_one (Int.lt_of_mul_lt_mul_left ?_ (Int.le_of_lt hb) : a < q + 2 + 1)
    rw [Int.mul_add, Int.mul_add]
    omega
/-- the state of how_many -/
def hmS (b m : Int) (c : Nat) (x : Int) (l : List (Int × Int)) (y4 y7 y8 y9 y10 : Option D) : DS := [some (.tuple [.int b, .int m]), some (.int c), some (.int x), some (.dict (dI l)), y4, some (.int b), some (.int m), y7, y8, y9, y10]
theorem hm_cl {b m : Int} {c : Nat} {x : Int} {Q : D → List D → Prop} (k : Knd b m) (hc : c ≤ 60) (q : ∀ as, Q (.int (cntN b m c x)) as) : Cl F_how_many [.tuple [.int b, .int m], .int c, .int x] Q := by
  have hb2 := k.b2
  refine fn_cl rfl ?_
  unfold b_how_many
  walk_at "e"
  rw [show ([(PyData.int x, PyData.int 1)] : List (D × D)) = dI [(x, 1)] from rfl]
  refine ⟨by omega, for_r0 (fun t s => ∃ l y4 y8 y9 y10 L, s = hmS b m c x l y4 none y8 y9 y10 ∧ t ≤ c ∧ Nk l ∧ sv l (cntN b m (c - t)) = cntN b m c x ∧ ∀ z ∈ l.map (·.1), L ≤ z ∧ z ≤ L + 2) ⟨[(x, 1)], _, _, _, _, x, rfl, by omega, by unfold Nk; simp, ?_, ?_⟩ ?_ ?_⟩
  · unfold sv; simp
  · intro z hz
    simp at hz
    omega
  · rintro t _ ht ⟨l, y4, y8, y9, y10, L, rfl, htc, hn, hsv, hL⟩
    have ht' : t < c := by omega
    have hlen : l.length ≤ 3 := by
      have := nodup3 hn hL
      rwa [List.length_map] at this
    unfold hmS
    walk_at "z"
    refine for_it (fun i s => ∃ l' y8 y9 y10, s = hmS b m c x l (some (.int t)) (some (.dict (dI l'))) y8 y9 y10 ∧ Nk l' ∧ (∀ z ∈ l'.map (·.1), L / b ≤ z ∧ z ≤ L / b + 2) ∧ sv l' (cntN b m (c - t - 1)) = sv (l.take i) (cntN b m (c - t))) ⟨[], _, _, _, rfl, List.nodup_nil, by simp, rfl⟩ ?_ ?_
    · rintro i d _ hd ⟨l', y8, y9, y10, rfl, hn', hL', hs'⟩
      obtain ⟨kk, v, hk, rfl⟩ := dI_keys hd
      obtain ⟨g1, g2⟩ := lget_at hn hk
      have hkL := hL kk (List.mem_map.mpr ⟨(kk, v), List.mem_of_getElem? hk, rfl⟩)
      unfold hmS
      walk_at "z"
      refine ⟨by omega, for_rg (fun j s => ∃ l' y9 y10, s = hmS b m c x l (some (.int t)) (some (.dict (dI l'))) (some (.int kk)) y9 y10 ∧ Nk l' ∧ (∀ z ∈ l'.map (·.1), L / b ≤ z ∧ z ≤ L / b + 2) ∧ sv l' (cntN b m (c - t - 1)) = sv (l.take i) (cntN b m (c - t)) + v * pSum m (fun f => if (kk - f) % b = 0 then cntN b m (c - t - 1) ((kk - f) / b) else 0) j) ⟨l', y9, y10, rfl, hn', hL', by rw [hs']; show _ = _ + v * 0; omega⟩ ?_ ?_⟩
      · rintro j _ hj ⟨l', y9, y10, rfl, hn', hL', hs'⟩
        have hlen' : l'.length ≤ 3 := by
          have := nodup3 hn' hL'
          rwa [List.length_map] at this
        unfold hmS
        walk_at "z"
        refine ⟨by omega, br_d (fun hz => ?_) fun hz => ?_⟩
        · have hz' := Int.mul_ediv_cancel' (Int.dvd_of_emod_eq_zero hz)
          walk_at "z"
          refine ⟨divC_of (n := 5) (by omega) (by omega), ?_⟩
          rw [dI_getD]
          rw [so_dgI g1, g2]
          walk_at "z"
          rw [dI_put]
          refine ⟨by rw [dI_len]; rw [sizeLine_eq]; omega, _, _, _, rfl, hn'.put _ _, fun z hz2 => ?_, ?_⟩
          · rcases lput_mem hz2 with h | rfl
            · exact hL' z h
            · exact keyR k hkL ⟨by omega, by omega⟩ hz'.symm
          · rw [sv_put hn', hs']
            show _ = _ + v * (pSum m _ j + if (kk - (-m + (j : Int))) % b = 0 then _ else 0)
            rw [if_pos hz, Int.mul_add]
            omega
        · walk_at "z"
          refine ⟨l', _, _, rfl, hn', hL', ?_⟩
          rw [hs']
          show _ = _ + v * (pSum m _ j + if (kk - (-m + (j : Int))) % b = 0 then _ else 0)
          rw [if_neg hz, Int.add_zero]
      · rintro _ ⟨l', y9, y10, rfl, hn', hL', hs'⟩
        refine ⟨l', _, y9, y10, rfl, hn', hL', ?_⟩
        rw [hs', sv_take hk]
        show _ = _ + v * cntN b m (c - t) kk
        have e : c - t = (c - t - 1) + 1 := by omega
        have e2 : cntN b m (c - t) kk = pSum m (fun f => if (kk - f) % b = 0 then cntN b m (c - t - 1) ((kk - f) / b) else 0) (m + 1 - -m).toNat := by
          rw [e]
          show Uop b m _ kk = _
          unfold Uop sFig
          rw [show (2 * m + 1).toNat = (m + 1 - -m).toNat by omega]
          rfl
        rw [e2]
    · rintro _ ⟨l', y8, y9, y10, rfl, hn', hL', hs'⟩
      unfold hmS
      walk_at "z"
      refine ⟨l', _, _, _, _, L / b, rfl, by omega, hn', ?_, hL'⟩
      rw [show c - (t + 1) = c - t - 1 by omega, hs', List.length_map, dI_len, List.take_length]
      exact hsv
  · rintro _ ⟨l, y4, y8, y9, y10, L, rfl, htc, hn, hsv, hL⟩
    unfold hmS
    walk_at "z"
    rw [dI_getD]
    have e : lget 0 l = cntN b m c x := by
      rw [← sv_dlt hn 0]
      rw [show c - (Int.toNat c) = 0 by omega] at hsv
      exact hsv
    rw [e]
    exact q _
end S
set_option Elab.async false
set_option linter.all false
set_option maxRecDepth 100000
set_option maxHeartbeats 1000000
namespace S
open PySem L2 Z
local macro_rules | `(tactic| walk_at "z") => `(tactic| try simp (config := { dsimp := false }) only [↓ev_dget, ↓ev_dget2, ↓ev_din, ↓run_dput, ↓ev_dnew, ↓ev_disp, ↓ev_prs0, ↓ev_prsC, ↓ev_keysS, ↓run_lock, ↓ev_maxD, ↓ev_dlen, ↓ev_sortD, so_dct, ky_i, ky_p, ky_n, prs1, dput0, flN0, flC0, ↓run_setX, ↓run_dropX, ↓run_retX, ↓run_asgX, ↓run_raise, ↓run_raiseF, ↓run_tryAs, ↓run_tryOnly, ↓evX_of, ↓xv_xcall, ↓xv_xcall1, ↓xv_xcallG, ↓xv_xmeth, ↓xv_xop, ↓xv_xtup, ↓xv_xif, ↓xv_xlc, ↓ev_rev, ↓run_when, yesD_t, nonB_n, notNon_l, ↓ev_here, ↓ev_zip, ↓ev_zip1, ↓ev_join, so_two, ↓run_nx, ↓run_no, ↓run_bk, ↓run_ct, ↓run_seq, ↓run_set, ↓run_drop, ↓run_ret, ↓run_asg, ↓run_app, ↓run_put, ↓run_aug, ↓run_frz, ↓run_kill, ↓xr_if, ↓ev_lc, ↓ev_yes, ↓run_ext, ↓ev_enum, ↓run_asgT, ↓run_retM, ↓run_fld, ↓ev_fld, ↓ev_at, ↓xv_callG, ↓xv_tupG, ↓xv_meth, ↓xv_make, ↓ev_move, so_tof, so_nonO, so_fillN, so_fillE, so_fillS, bkG0, bkGE, bkGF, bkGT, stD0, stDC, so_dof, so_noFd, fdN, fdC, fdE, fdO, ptN, ptC, ptE, ptO, nm_ahead_end, nm_ahead_ended, nm_ahead_figures, nm_ahead_is_figure, nm_ahead_kind, nm_ahead_last, nm_ahead_parted, nm_ahead_put, nm_ahead_told, nm_ask_cell_kind, nm_ask_cell_looks, nm_ask_cell_sight, nm_ask_cell_table, nm_base_below, nm_base_held, nm_base_put, nm_base_under, nm_base_upper, nm_begin_done, nm_begin_figures, nm_begin_great, nm_begin_kind, nm_begin_left, nm_begin_looks, nm_begin_numbers, nm_begin_rows, nm_begin_seen, nm_begin_stand, nm_begin_wide, nm_begin_works, nm_begin_rows_done, nm_begin_rows_kind, nm_begin_rows_looks, nm_begin_rows_rows, nm_begin_rows_seen, nm_begin_rows_works, nm_below_base, nm_below_under, nm_below_upper, nm_deeds_done, nm_deeds_kind, nm_deeds_looks, nm_deeds_rows, nm_deeds_seen, nm_deeds_works, nm_divided_kind, nm_divided_looks, nm_divided_sight, nm_divided_table, nm_done_begin, nm_done_begin_rows, nm_done_deeds, nm_done_entries, nm_done_go, nm_done_kind, nm_done_looked, nm_done_looks, nm_done_put, nm_done_rest, nm_done_row, nm_done_rows, nm_done_seen, nm_done_work, nm_done_works, nm_done_wrong, nm_end_ahead, nm_end_ended, nm_end_figures, nm_end_kind, nm_end_last, nm_ended_ahead, nm_ended_end, nm_ended_figures, nm_ended_is_figure, nm_ended_kind, nm_ended_last, nm_ended_parted, nm_ended_put, nm_ended_told, nm_entered_kind, nm_entered_looks, nm_entered_sight, nm_entered_table, nm_entries_done, nm_entries_kind, nm_entries_looks, nm_entries_rows, nm_entries_seen, nm_entries_works, nm_figures_ahead, nm_figures_begin, nm_figures_end, nm_figures_ended, nm_figures_great, nm_figures_is_figure, nm_figures_kind, nm_figures_last, nm_figures_left, nm_figures_looks, nm_figures_numbers, nm_figures_parted, nm_figures_put, nm_figures_rest, nm_figures_stand, nm_figures_told, nm_figures_tried, nm_figures_wide, nm_go_done, nm_go_kind, nm_go_looks, nm_go_rows, nm_go_seen, nm_go_works, nm_great_begin, nm_great_figures, nm_great_kind, nm_great_left, nm_great_looks, nm_great_numbers, nm_great_rest, nm_great_stand, nm_great_tried, nm_great_wide, nm_held_base, nm_held_under, nm_held_upper, nm_is_figure_ahead, nm_is_figure_ended, nm_is_figure_figures, nm_is_figure_kind, nm_is_figure_last, nm_kind_ahead, nm_kind_ask_cell, nm_kind_begin, nm_kind_begin_rows, nm_kind_deeds, nm_kind_divided, nm_kind_done, nm_kind_end, nm_kind_ended, nm_kind_entered, nm_kind_entries, nm_kind_figures, nm_kind_go, nm_kind_great, nm_kind_is_figure, nm_kind_last, nm_kind_left, nm_kind_looked, nm_kind_looks, nm_kind_numbers, nm_kind_parted, nm_kind_put, nm_kind_put_all, nm_kind_rest, nm_kind_row, nm_kind_rows, nm_kind_say, nm_kind_seen, nm_kind_sight, nm_kind_stand, nm_kind_table, nm_kind_told, nm_kind_tried, nm_kind_turned, nm_kind_wide, nm_kind_work, nm_kind_works, nm_kind_wrong, nm_last_ahead, nm_last_end, nm_last_ended, nm_last_figures, nm_last_is_figure, nm_last_kind, nm_last_parted, nm_last_put, nm_last_told, nm_left_begin, nm_left_figures, nm_left_great, nm_left_kind, nm_left_looks, nm_left_numbers, nm_left_rest, nm_left_stand, nm_left_tried, nm_left_wide, nm_look_top, nm_looked_done, nm_looked_kind, nm_looked_looks, nm_looked_rows, nm_looked_seen, nm_looked_sight, nm_looked_table, nm_looked_works, nm_looks_ask_cell, nm_looks_begin, nm_looks_begin_rows, nm_looks_deeds, nm_looks_divided, nm_looks_done, nm_looks_entered, nm_looks_entries, nm_looks_figures, nm_looks_go, nm_looks_great, nm_looks_kind, nm_looks_left, nm_looks_looked, nm_looks_numbers, nm_looks_put, nm_looks_put_all, nm_looks_rest, nm_looks_row, nm_looks_rows, nm_looks_say, nm_looks_seen, nm_looks_sight, nm_looks_stand, nm_looks_table, nm_looks_told, nm_looks_tried, nm_looks_turned, nm_looks_wide, nm_looks_work, nm_looks_works, nm_looks_wrong, nm_numbers_begin, nm_numbers_figures, nm_numbers_great, nm_numbers_kind, nm_numbers_left, nm_numbers_looks, nm_numbers_rest, nm_numbers_stand, nm_numbers_tried, nm_numbers_wide, nm_parted_ahead, nm_parted_ended, nm_parted_figures, nm_parted_kind, nm_parted_last, nm_put_ahead, nm_put_base, nm_put_done, nm_put_ended, nm_put_figures, nm_put_kind, nm_put_last, nm_put_looks, nm_put_rows, nm_put_seen, nm_put_under, nm_put_upper, nm_put_works, nm_put_all_kind, nm_put_all_looks, nm_put_all_sight, nm_put_all_table, nm_rest_done, nm_rest_figures, nm_rest_great, nm_rest_kind, nm_rest_left, nm_rest_looks, nm_rest_numbers, nm_rest_rows, nm_rest_seen, nm_rest_stand, nm_rest_wide, nm_rest_works, nm_row_done, nm_row_kind, nm_row_looks, nm_row_rows, nm_row_seen, nm_row_works, nm_rows_begin, nm_rows_begin_rows, nm_rows_deeds, nm_rows_done, nm_rows_entries, nm_rows_go, nm_rows_kind, nm_rows_looked, nm_rows_looks, nm_rows_put, nm_rows_rest, nm_rows_row, nm_rows_seen, nm_rows_work, nm_rows_works, nm_rows_wrong, nm_say_kind, nm_say_looks, nm_say_sight, nm_say_table, nm_seen_begin, nm_seen_begin_rows, nm_seen_deeds, nm_seen_done, nm_seen_entries, nm_seen_go, nm_seen_kind, nm_seen_looked, nm_seen_looks, nm_seen_put, nm_seen_rest, nm_seen_row, nm_seen_rows, nm_seen_work, nm_seen_works, nm_seen_wrong, nm_sight_ask_cell, nm_sight_divided, nm_sight_entered, nm_sight_kind, nm_sight_looked, nm_sight_looks, nm_sight_put_all, nm_sight_say, nm_sight_table, nm_sight_told, nm_sight_turned, nm_stand_begin, nm_stand_figures, nm_stand_great, nm_stand_kind, nm_stand_left, nm_stand_looks, nm_stand_numbers, nm_stand_rest, nm_stand_tried, nm_stand_wide, nm_table_ask_cell, nm_table_divided, nm_table_entered, nm_table_kind, nm_table_looked, nm_table_looks, nm_table_put_all, nm_table_say, nm_table_sight, nm_table_told, nm_table_turned, nm_told_ahead, nm_told_ended, nm_told_figures, nm_told_kind, nm_told_last, nm_told_looks, nm_told_sight, nm_told_table, nm_top_look, nm_tried_figures, nm_tried_great, nm_tried_kind, nm_tried_left, nm_tried_looks, nm_tried_numbers, nm_tried_stand, nm_tried_wide, nm_turned_kind, nm_turned_looks, nm_turned_sight, nm_turned_table, nm_under_base, nm_under_below, nm_under_held, nm_under_put, nm_under_upper, nm_upper_base, nm_upper_below, nm_upper_held, nm_upper_put, nm_upper_under, nm_wide_begin, nm_wide_figures, nm_wide_great, nm_wide_kind, nm_wide_left, nm_wide_looks, nm_wide_numbers, nm_wide_rest, nm_wide_stand, nm_wide_tried, nm_work_done, nm_work_kind, nm_work_looks, nm_work_rows, nm_work_seen, nm_work_works, nm_works_begin, nm_works_begin_rows, nm_works_deeds, nm_works_done, nm_works_entries, nm_works_go, nm_works_kind, nm_works_looked, nm_works_looks, nm_works_put, nm_works_rest, nm_works_row, nm_works_rows, nm_works_seen, nm_works_work, nm_works_wrong, nm_wrong_done, nm_wrong_kind, nm_wrong_looks, nm_wrong_rows, nm_wrong_seen, nm_wrong_works, sz1, sz2, sz3, sz4, sz5, sz6, sz7, sz8, sz9, sz10, sz11, true_and, ↓run_putP, ↓run_appP, ↓ev_plR, ↓ev_plIx, ↓ev_fz, ↓ev_rep, ↓run_fo, ↓run_wh, ↓ev_ok, ↓ev_opt, ↓ev_var, ↓ev_C, ↓ev_V, ↓ev_slot, ↓ev_op, ↓ev_un, ↓ev_B, ↓ev_not, ↓ev_notV, ↓ev_nil, ↓ev_cons, ↓ev_nilB, ↓ev_consB, ↓ev_tup, ↓ev_lst, ↓ev_B1, ↓ev_sl, ↓ev_P0, ↓ev_P1, ↓ev_Rg1, ↓ev_Rg2, ↓ev_LstRg, ↓ev_It, ↓ev_R1, ↓ev_R2, ↓xv_and, ↓xv_or, ↓xv_andV, ↓xv_orV, ↓xv_if, ↓xv_chain, ↓xv_call, ↓xv_call1, ↓xv_callT, hdC, br_t, br_f, so_some, so_none, so_mapN, so_mapC, lks_eq, rg_z, rg_s, lk0, lkS, st0, stS, entry0, entryS, rep0, repS, res_val, res_slot, so_add, so_sub, so_addN, so_subN, so_mul, so_div, so_mod, so_pow, so_shl, so_shr, so_and, so_or, so_xor, so_lt, so_le, so_gt, so_ge, so_eqI, so_neI, so_neg, so_isN, so_notN, non_n, non_i, non_t, non_l, non_b, non_s, so_ixL, so_ixT, at0, at1, at2, at3, ix0, ix1, ix2, ixN30, ixN31, ixN32, so_tru, so_iof, so_lof, so_itL, so_itT, so_r1, so_r2, so_abs, so_max, so_min, so_intB, so_intI, ii_i, ib_i, ib_b, ii_b, it_t, it_l, il_l, il_t, so_cat, so_inL, so_inT, so_ninL, so_ninT, so_maxI, so_maxT, so_rev, so_bits, so_en, wpD0, wpDC, bk0, bkC, oat0, oatS, so_catD, so_isBl, so_notBl, so_listOfL, so_listOfT, so_listL, so_listT, so_tupL, so_tupT, mx0, mxC, fz0, fzC, flO, flN, noL_i, noL_n, noL_b, noL_s, noL_t, noLs_n, noLs_c, Bool.and_true, Bool.and_self, getP0, setP0, so_ixP0, so_getP1, so_slL, so_lenL, so_lenT, so_gN, Int.cast_ofNat_Int, so_gT, so_gL, ↓ev_fzS, ↓ev_idx, ↓run_forZS, ↓ev_plIxT, scD_b, scD_i, scD_n, fzS0, fzSC, scOO, scON, notNon_t, so_gC, so_gE, Int.toNat_natCast, Int.one_mul, modC_eq, shrC_eq, powC_eq, fits0, fits1, fits2, fits3, fits4, fits5, fits6, fits7, fits8, fits9, fits10, fits11, fits12, fits13, fits14, fits15, fits16, rngC_eq, List.length_cons, List.length_nil, Nat.reduceAdd, Nat.zero_add, List.set_cons_zero, List.set_cons_succ, true_and, and_true, decide_true, decide_false, Bool.not_true, Bool.not_false, Int.reduceLT, Int.reduceSub, Int.reduceAdd, Int.reduceMul, Int.reduceNeg, Int.reduceDiv, Int.reduceMod, Int.reduceEq, Int.reduceLE, Int.reduceToNat, Int.reducePow, nab10, nab2, eq_self])
local macro_rules | `(tactic| walk_at "e") => `(tactic| (simp (config := { dsimp := false }) only [entryS, entry0, repS, rep0]; walk_at "z"))
theorem great_cl {n : Nat} {e : D} {f : Int} {Q : D → List D → Prop} (h : Dk n e) (hn : n ≤ 10000000000) (f0 : 0 ≤ f) (f1 : f ≤ 200) (q : ∀ v e', 0 ≤ v → v < 2 ^ 200 → Dk (n + 6) e' → Q (.int v) [e', .int f]) : Cl F_law_great [e, .int f] Q := by
  refine fn_cl rfl ?_
  unfold b_law_great
  walk_at "e"
  refine pick_cl h (by omega) (divC_of (n := 8) (by omega) (by omega)) fun c e1 c0 c1 h1 => ?_
  walk_at "z"
  refine ⟨by omega, for_r0 (fun i s => ∃ z t, s = [some e1, some (.int f), some (.int z), t, none] ∧ 0 < z ∧ z < 2 ^ (4 * i + 1)) ⟨1, none, rfl, by omega, by decide⟩ ?_ ?_⟩
  · rintro i _ hi ⟨z, t, rfl, z0, z1⟩
    walk_at "z"
    refine ⟨mulC_of (m := 4 * i + 1) (n := 4) (abs_pow2 (by omega) z1) (by decide) (by omega), _, _, rfl, by omega, ?_⟩
    rw [show 4 * (i + 1) + 1 = 4 * i + 1 + 4 by omega, Int.pow_add]
    have : (2 : Int) ^ 4 = 16 := by decide
    rw [this]
    omega
  · rintro _ ⟨z, t, rfl, z0, z1⟩
    walk_at "z"
    refine for_r0 (fun i s => ∃ e v t, s = [some e, some (.int f), some (.int z), t, some (.int v)] ∧ Dk (n + 1 + i) e ∧ 0 ≤ v ∧ v < 2 ^ (40 * i)) ⟨_, 0, _, rfl, h1, by omega, by decide⟩ ?_ ?_
    · rintro i _ hi ⟨e2, v, t, rfl, h2, v0, v1⟩
      walk_at "z"
      refine ⟨mulC_of (m := 40 * i) (n := 40) (abs_pow2 v0 v1) (by decide) (by omega), ?_⟩
      refine pick_cl h2 (by omega) divL fun x e3 x0 x1 h3 => ?_
      walk_at "z"
      refine ⟨_, _, _, rfl, h3, by omega, ?_⟩
      rw [show 40 * (i + 1) = 40 * i + 40 by omega, Int.pow_add, show (2 : Int) ^ 40 = 1099511627776 by decide]
      omega
    · rintro _ ⟨e2, v, t, rfl, h2, v0, v1⟩
      walk_at "z"
      have a0 := Int.emod_nonneg v (by omega : z ≠ 0)
      have a1 := Int.emod_lt_of_pos v z0
      have a2 : v % z ≤ v := by
        have h1 := Int.emod_add_mul_ediv v z
        have h2 := Int.mul_nonneg (Int.le_of_lt z0) (Int.ediv_nonneg v0 (Int.le_of_lt z0))
        omega
      refine ⟨z0, q _ _ a0 ?_ (h2.mono (by omega))⟩
      exact Int.lt_of_le_of_lt a2 v1
def wholeB : D → Bool
  | .int _ => true
  | _ => false
theorem whole_1 {d : D} (h : isiB "int" d = true) : (!isiB "bool" d) = wholeB d := by
  cases d <;> first | rfl | simp [isiB] at h
theorem whole_2 {d : D} (h : isiB "int" d = false) : wholeB d = false := by
  cases d with
  | int i => exact absurd h (by rw [ii_i]; decide)
  | _ => rfl
theorem lwhole_cl {d : D} {Q : D → List D → Prop} (q : ∀ as, Q (.bool (wholeB d)) as) : Cl F_law_whole [d] Q := by
  refine fn_cl rfl ?_
  unfold b_law_whole
  walk_at "e"
  refine br_i (fun h => ?_) fun h => ?_
  · walk_at "z"
    rw [whole_1 h]
    exact q _
  · walk_at "z"
    rw [← whole_2 h]
    exact q _
theorem lwholeI_cl {i : Int} {Q : D → List D → Prop} (q : ∀ as, Q (.bool true) as) : Cl F_law_whole [.int i] Q := lwhole_cl q
def lcS (b m : Int) (c : Nat) (l : List (Int × Int)) (y3 y4 y5 y6 y7 : Option D) : DS := [some (.tuple [.int b, .int m]), some (.int c), some (.dict (dI l)), y3, y4, y5, y6, y7]
theorem lc_key {b m kk f : Int} {t : Nat} (k : Knd b m) (h : kk.natAbs + 1 ≤ 16 ^ t) (hf : -m ≤ f ∧ f ≤ m) : (kk * b + f).natAbs + 1 ≤ 16 ^ (t + 1) := by
  have hk2 := k.b2
  have hm := k.hi
  have e1 : (kk * b + f).natAbs ≤ kk.natAbs * b.natAbs + f.natAbs := Nat.le_trans (Int.natAbs_add_le _ _) (by rw [Int.natAbs_mul]; omega)
  have e2 : f.natAbs + 1 ≤ b.natAbs := by omega
  have e3 : b.natAbs ≤ 16 := by omega
  have e4 : (kk.natAbs + 1) * b.natAbs ≤ 16 ^ t * 16 := Nat.mul_le_mul h e3
  rw [Nat.pow_succ]
  rw [Nat.add_mul] at e4
  omega
theorem lcnt_cl {b m : Int} {c : Nat} {Q : D → List D → Prop} (k : Knd b m) (hc : c ≤ 10) (hr : (2 * m.toNat + 1) ^ c ≤ 1500) (q : ∀ l as, Nk l → (∀ x, lget x l = cntN b m c x) → l ≠ [] → (∀ z ∈ l.map (·.1), z.natAbs + 1 ≤ 16 ^ c) → Q (.dict (dI l)) as) : Cl F_law_counts [.tuple [.int b, .int m], .int c] Q := by
  have hb2 := k.b2
  refine fn_cl rfl ?_
  unfold b_law_counts
  walk_at "e"
  rw [show ([(PyData.int 0, PyData.int 1)] : List (D × D)) = dI [(0, 1)] from rfl]
  refine ⟨by omega, for_r0 (fun t s => ∃ l y3 y5 y6 y7, s = lcS b m c l y3 none y5 y6 y7 ∧ t ≤ c ∧ Nk l ∧ (∀ g, sv l g = powT b m t g) ∧ l.length ≤ (2 * m.toNat + 1) ^ t ∧ l ≠ [] ∧ ∀ z ∈ l.map (·.1), z.natAbs + 1 ≤ 16 ^ t) ⟨[(0, 1)], _, _, _, _, rfl, by omega, by unfold Nk; simp, fun g => by unfold sv; simp [powT], by simp, by simp, by simp⟩ ?_ ?_⟩
  · rintro t _ ht ⟨l, y3, y5, y6, y7, rfl, htc, hn, hsv, hlen, hne, hL⟩
    have ht' : t < c := by omega
    have hpow : (2 * m.toNat + 1) ^ (t + 1) ≤ 1500 := Nat.le_trans (Nat.pow_le_pow_right (by omega) (by omega)) hr
    have hlen2 : l.length * (2 * m.toNat + 1) ≤ 1500 := Nat.le_trans (by rw [Nat.pow_succ]; exact Nat.mul_le_mul_right _ hlen) hpow
    unfold lcS
    walk_at "z"
    refine for_it (fun i s => ∃ l' y5 y6 y7, s = lcS b m c l (some (.int t)) (some (.dict (dI l'))) y5 y6 y7 ∧ i ≤ l.length ∧ Nk l' ∧ (∀ z ∈ l'.map (·.1), z.natAbs + 1 ≤ 16 ^ (t + 1)) ∧ (∀ g, sv l' g = sv (l.take i) (Top b m g)) ∧ l'.length ≤ i * (2 * m.toNat + 1) ∧ (0 < i → l' ≠ [])) ⟨[], _, _, _, rfl, by omega, List.nodup_nil, by simp, fun _ => rfl, by simp, by omega⟩ ?_ ?_
    · rintro i d _ hd ⟨l', y5, y6, y7, rfl, hi, hn', hL', hs', hl', hne'⟩
      obtain ⟨kk, v, hk, rfl⟩ := dI_keys hd
      have hil : i < l.length := (List.getElem?_eq_some_iff.mp hk).1
      have hil2 : i * (2 * m.toNat + 1) + (2 * m.toNat + 1) ≤ 1500 := by
        have := Nat.mul_le_mul_right (2 * m.toNat + 1) hil
        rw [Nat.succ_mul] at this
        omega
      obtain ⟨g1, g2⟩ := lget_at hn hk
      have hkL := hL kk (List.mem_map.mpr ⟨(kk, v), List.mem_of_getElem? hk, rfl⟩)
      unfold lcS
      walk_at "z"
      refine ⟨by omega, for_rg (fun j s => ∃ l' y6 y7, s = lcS b m c l (some (.int t)) (some (.dict (dI l'))) (some (.int kk)) y6 y7 ∧ Nk l' ∧ (∀ z ∈ l'.map (·.1), z.natAbs + 1 ≤ 16 ^ (t + 1)) ∧ (∀ g, sv l' g = sv (l.take i) (Top b m g) + v * pSum m (fun f => g (kk * b + f)) j) ∧ l'.length ≤ i * (2 * m.toNat + 1) + j ∧ (0 < i + j → l' ≠ [])) ⟨l', y6, y7, rfl, hn', hL', fun g => by rw [hs']; show _ = _ + v * 0; omega, by omega, fun h => hne' (by omega)⟩ ?_ ?_⟩
      · rintro j _ hj ⟨l', y6, y7, rfl, hn', hL', hs', hl', hne'⟩
        unfold lcS
        walk_at "z"
        have hkb : kk.natAbs < 2 ^ 44 := by
          have : 16 ^ t ≤ 16 ^ 11 := Nat.pow_le_pow_right (by omega) (by omega)
          have e : (16 : Nat) ^ 11 = 2 ^ 44 := by decide
          omega
        refine ⟨mulC_of (m := 44) (n := 5) hkb (by omega), ?_⟩
        rw [dI_getD]
        rw [so_dgI g1, g2]
        walk_at "z"
        rw [dI_put]
        refine ⟨by rw [dI_len, sizeLine_eq]; omega, _, _, _, rfl, hn'.put _ _, fun z hz2 => ?_, fun g => ?_, ?_, fun _ => lput_ne _ _ _⟩
        · rcases lput_mem hz2 with h | rfl
          · exact hL' z h
          · exact lc_key k hkL ⟨by omega, by omega⟩
        · rw [sv_put hn', hs']
          rw [show (0 - m + (j : Int)) = -m + j by omega]
          show _ = _ + v * (pSum m (fun f => g (kk * b + f)) j + g (kk * b + (-m + (j : Int))))
          rw [Int.mul_add]
          omega
        · have := lput_len (kk * b + (0 - m + (j : Int))) (lget (kk * b + (0 - m + (j : Int))) l' + v) l'
          omega
      · rintro _ ⟨l', y6, y7, rfl, hn', hL', hs', hl', hne'⟩
        refine ⟨l', _, y6, y7, rfl, by omega, hn', hL', fun g => ?_, ?_, fun _ => hne' (by omega)⟩
        · rw [hs', sv_take hk]
          show _ = _ + v * Top b m g kk
          unfold Top sFig
          rw [show (2 * m + 1).toNat = (m + 1 - (0 - m)).toNat by omega]
        · rw [Nat.succ_mul]
          omega
    · rintro _ ⟨l', y5, y6, y7, rfl, hi, hn', hL', hs', hl', hne'⟩
      unfold lcS
      walk_at "z"
      rw [List.length_map, dI_len] at hs' hl' hne'
      refine ⟨l', _, _, _, _, rfl, by omega, hn', fun g => ?_, ?_, hne' (List.length_pos_iff.mpr hne), hL'⟩
      · rw [hs', List.take_length, hsv]
        rfl
      · refine Nat.le_trans hl' ?_
        rw [Nat.pow_succ]
        exact Nat.mul_le_mul_right _ hlen
  · rintro _ ⟨l, y3, y5, y6, y7, rfl, htc, hn, hsv, hlen, hne, hL⟩
    unfold lcS
    walk_at "z"
    rw [Int.toNat_natCast] at hsv hL
    exact q l _ hn (fun x => by rw [← sv_dlt hn, hsv, powT_cnt (by omega)]) hne hL
theorem lsum_cl {b m : Int} {c : Nat} {x : Int} {Q : D → List D → Prop} (k : Knd b m) (hc : c ≤ 60) (hc1 : 1 ≤ c) (q : ∀ as, Q (.int (cntN b m c x)) as) : Cl F_law_sum [.tuple [.int b, .int m], .int c, .int x] Q := by
  have hb2 := k.b2
  refine fn_cl rfl ?_
  unfold b_law_sum
  walk_at "e"
  refine ⟨by omega, for_rg (fun j s => ∃ y, s = [some (.tuple [.int b, .int m]), some (.int c), some (.int x), some (.int (pSum m (fun f => if (x - f) % b = 0 then cntN b m (c - 1) ((x - f) / b) else 0) j)), y]) ⟨_, rfl⟩ ?_ ?_⟩
  · rintro j _ hj ⟨y, rfl⟩
    walk_at "z"
    rw [show (0 - m + (j : Int)) = -m + j by omega]
    refine ⟨by omega, br_d (fun hz => ?_) fun hz => ?_⟩
    · walk_at "z"
      refine ⟨divC_of (n := 5) (by omega) (by omega), ?_⟩
      rw [show (c : Int) - 1 = ((c - 1 : Nat) : Int) by omega]
      refine hm_cl k (by omega) fun as => ?_
      walk_at "z"
      refine ⟨some (.int (-m + j)), ?_⟩
      have e : pSum m (fun f => if (x - f) % b = 0 then cntN b m (c - 1) ((x - f) / b) else 0) (j + 1) = pSum m (fun f => if (x - f) % b = 0 then cntN b m (c - 1) ((x - f) / b) else 0) j + cntN b m (c - 1) ((x - (-m + (j : Int))) / b) := by
        show _ + (if (x - (-m + (j : Int))) % b = 0 then _ else 0) = _
        rw [if_pos hz]
      rw [e]
    · walk_at "z"
      refine ⟨some (.int (-m + j)), ?_⟩
      have e : pSum m (fun f => if (x - f) % b = 0 then cntN b m (c - 1) ((x - f) / b) else 0) (j + 1) = pSum m (fun f => if (x - f) % b = 0 then cntN b m (c - 1) ((x - f) / b) else 0) j := by
        show _ + (if (x - (-m + (j : Int))) % b = 0 then _ else 0) = _
        rw [if_neg hz, Int.add_zero]
      rw [e]
  · rintro _ ⟨y, rfl⟩
    walk_at "z"
    have e2 : cntN b m c x = pSum m (fun f => if (x - f) % b = 0 then cntN b m (c - 1) ((x - f) / b) else 0) (m + 1 - (0 - m)).toNat := by
      rw [show c = (c - 1) + 1 by omega]
      show Uop b m _ x = _
      unfold Uop sFig
      rw [show (2 * m + 1).toNat = (m + 1 - (0 - m)).toNat by omega]
      rfl
    rw [← e2]
    exact q _
theorem so_kI {l : List (Int × Int)} {Q : List Int → Prop} : So (kIntsD (dI l)) Q = Q (l.map (·.1)) := by
  have : kIntsD (dI l) = some (l.map (·.1)) := by
    induction l with
    | nil => rfl
    | cons p r ih =>
      show (kIntsD (dI r)).map (p.1 :: ·) = _
      rw [ih]; rfl
  rw [this]; exact so_some
theorem so_max {l : List Int} {Q : Int → Prop} (h : l ≠ []) (q : ∀ m ∈ l, Q m) : So (maxL l) Q := by
  cases l with
  | nil => exact absurd rfl h
  | cons a r =>
    show So (some (r.foldl max a)) Q
    rw [so_some]
    refine q _ ?_
    obtain ⟨_, _, h3⟩ := foldl_max r a
    rcases h3 with h | h
    · rw [h]; simp
    · exact List.mem_cons_of_mem _ h
end S
set_option Elab.async false
set_option linter.all false
set_option maxRecDepth 100000
set_option maxHeartbeats 1000000
namespace S
open PySem L2 Z
local macro_rules | `(tactic| walk_at "z") => `(tactic| try simp (config := { dsimp := false }) only [↓ev_dget, ↓ev_dget2, ↓ev_din, ↓run_dput, ↓ev_dnew, ↓ev_disp, ↓ev_prs0, ↓ev_prsC, ↓ev_keysS, ↓run_lock, ↓ev_maxD, ↓ev_dlen, ↓ev_sortD, so_dct, ky_i, ky_p, ky_n, prs1, dput0, flN0, flC0, ↓run_setX, ↓run_dropX, ↓run_retX, ↓run_asgX, ↓run_raise, ↓run_raiseF, ↓run_tryAs, ↓run_tryOnly, ↓evX_of, ↓xv_xcall, ↓xv_xcall1, ↓xv_xcallG, ↓xv_xmeth, ↓xv_xop, ↓xv_xtup, ↓xv_xif, ↓xv_xlc, ↓ev_rev, ↓run_when, yesD_t, nonB_n, notNon_l, ↓ev_here, ↓ev_zip, ↓ev_zip1, ↓ev_join, so_two, ↓run_nx, ↓run_no, ↓run_bk, ↓run_ct, ↓run_seq, ↓run_set, ↓run_drop, ↓run_ret, ↓run_asg, ↓run_app, ↓run_put, ↓run_aug, ↓run_frz, ↓run_kill, ↓xr_if, ↓ev_lc, ↓ev_yes, ↓run_ext, ↓ev_enum, ↓run_asgT, ↓run_retM, ↓run_fld, ↓ev_fld, ↓ev_at, ↓xv_callG, ↓xv_tupG, ↓xv_meth, ↓xv_make, ↓ev_move, so_tof, so_nonO, so_fillN, so_fillE, so_fillS, bkG0, bkGE, bkGF, bkGT, stD0, stDC, so_dof, so_noFd, fdN, fdC, fdE, fdO, ptN, ptC, ptE, ptO, nm_ahead_end, nm_ahead_ended, nm_ahead_figures, nm_ahead_is_figure, nm_ahead_kind, nm_ahead_last, nm_ahead_parted, nm_ahead_put, nm_ahead_told, nm_ask_cell_kind, nm_ask_cell_looks, nm_ask_cell_sight, nm_ask_cell_table, nm_base_below, nm_base_held, nm_base_put, nm_base_under, nm_base_upper, nm_begin_done, nm_begin_figures, nm_begin_great, nm_begin_kind, nm_begin_left, nm_begin_looks, nm_begin_numbers, nm_begin_rows, nm_begin_seen, nm_begin_stand, nm_begin_wide, nm_begin_works, nm_begin_rows_done, nm_begin_rows_kind, nm_begin_rows_looks, nm_begin_rows_rows, nm_begin_rows_seen, nm_begin_rows_works, nm_below_base, nm_below_under, nm_below_upper, nm_deeds_done, nm_deeds_kind, nm_deeds_looks, nm_deeds_rows, nm_deeds_seen, nm_deeds_works, nm_divided_kind, nm_divided_looks, nm_divided_sight, nm_divided_table, nm_done_begin, nm_done_begin_rows, nm_done_deeds, nm_done_entries, nm_done_go, nm_done_kind, nm_done_looked, nm_done_looks, nm_done_put, nm_done_rest, nm_done_row, nm_done_rows, nm_done_seen, nm_done_work, nm_done_works, nm_done_wrong, nm_end_ahead, nm_end_ended, nm_end_figures, nm_end_kind, nm_end_last, nm_ended_ahead, nm_ended_end, nm_ended_figures, nm_ended_is_figure, nm_ended_kind, nm_ended_last, nm_ended_parted, nm_ended_put, nm_ended_told, nm_entered_kind, nm_entered_looks, nm_entered_sight, nm_entered_table, nm_entries_done, nm_entries_kind, nm_entries_looks, nm_entries_rows, nm_entries_seen, nm_entries_works, nm_figures_ahead, nm_figures_begin, nm_figures_end, nm_figures_ended, nm_figures_great, nm_figures_is_figure, nm_figures_kind, nm_figures_last, nm_figures_left, nm_figures_looks, nm_figures_numbers, nm_figures_parted, nm_figures_put, nm_figures_rest, nm_figures_stand, nm_figures_told, nm_figures_tried, nm_figures_wide, nm_go_done, nm_go_kind, nm_go_looks, nm_go_rows, nm_go_seen, nm_go_works, nm_great_begin, nm_great_figures, nm_great_kind, nm_great_left, nm_great_looks, nm_great_numbers, nm_great_rest, nm_great_stand, nm_great_tried, nm_great_wide, nm_held_base, nm_held_under, nm_held_upper, nm_is_figure_ahead, nm_is_figure_ended, nm_is_figure_figures, nm_is_figure_kind, nm_is_figure_last, nm_kind_ahead, nm_kind_ask_cell, nm_kind_begin, nm_kind_begin_rows, nm_kind_deeds, nm_kind_divided, nm_kind_done, nm_kind_end, nm_kind_ended, nm_kind_entered, nm_kind_entries, nm_kind_figures, nm_kind_go, nm_kind_great, nm_kind_is_figure, nm_kind_last, nm_kind_left, nm_kind_looked, nm_kind_looks, nm_kind_numbers, nm_kind_parted, nm_kind_put, nm_kind_put_all, nm_kind_rest, nm_kind_row, nm_kind_rows, nm_kind_say, nm_kind_seen, nm_kind_sight, nm_kind_stand, nm_kind_table, nm_kind_told, nm_kind_tried, nm_kind_turned, nm_kind_wide, nm_kind_work, nm_kind_works, nm_kind_wrong, nm_last_ahead, nm_last_end, nm_last_ended, nm_last_figures, nm_last_is_figure, nm_last_kind, nm_last_parted, nm_last_put, nm_last_told, nm_left_begin, nm_left_figures, nm_left_great, nm_left_kind, nm_left_looks, nm_left_numbers, nm_left_rest, nm_left_stand, nm_left_tried, nm_left_wide, nm_look_top, nm_looked_done, nm_looked_kind, nm_looked_looks, nm_looked_rows, nm_looked_seen, nm_looked_sight, nm_looked_table, nm_looked_works, nm_looks_ask_cell, nm_looks_begin, nm_looks_begin_rows, nm_looks_deeds, nm_looks_divided, nm_looks_done, nm_looks_entered, nm_looks_entries, nm_looks_figures, nm_looks_go, nm_looks_great, nm_looks_kind, nm_looks_left, nm_looks_looked, nm_looks_numbers, nm_looks_put, nm_looks_put_all, nm_looks_rest, nm_looks_row, nm_looks_rows, nm_looks_say, nm_looks_seen, nm_looks_sight, nm_looks_stand, nm_looks_table, nm_looks_told, nm_looks_tried, nm_looks_turned, nm_looks_wide, nm_looks_work, nm_looks_works, nm_looks_wrong, nm_numbers_begin, nm_numbers_figures, nm_numbers_great, nm_numbers_kind, nm_numbers_left, nm_numbers_looks, nm_numbers_rest, nm_numbers_stand, nm_numbers_tried, nm_numbers_wide, nm_parted_ahead, nm_parted_ended, nm_parted_figures, nm_parted_kind, nm_parted_last, nm_put_ahead, nm_put_base, nm_put_done, nm_put_ended, nm_put_figures, nm_put_kind, nm_put_last, nm_put_looks, nm_put_rows, nm_put_seen, nm_put_under, nm_put_upper, nm_put_works, nm_put_all_kind, nm_put_all_looks, nm_put_all_sight, nm_put_all_table, nm_rest_done, nm_rest_figures, nm_rest_great, nm_rest_kind, nm_rest_left, nm_rest_looks, nm_rest_numbers, nm_rest_rows, nm_rest_seen, nm_rest_stand, nm_rest_wide, nm_rest_works, nm_row_done, nm_row_kind, nm_row_looks, nm_row_rows, nm_row_seen, nm_row_works, nm_rows_begin, nm_rows_begin_rows, nm_rows_deeds, nm_rows_done, nm_rows_entries, nm_rows_go, nm_rows_kind, nm_rows_looked, nm_rows_looks, nm_rows_put, nm_rows_rest, nm_rows_row, nm_rows_seen, nm_rows_work, nm_rows_works, nm_rows_wrong, nm_say_kind, nm_say_looks, nm_say_sight, nm_say_table, nm_seen_begin, nm_seen_begin_rows, nm_seen_deeds, nm_seen_done, nm_seen_entries, nm_seen_go, nm_seen_kind, nm_seen_looked, nm_seen_looks, nm_seen_put, nm_seen_rest, nm_seen_row, nm_seen_rows, nm_seen_work, nm_seen_works, nm_seen_wrong, nm_sight_ask_cell, nm_sight_divided, nm_sight_entered, nm_sight_kind, nm_sight_looked, nm_sight_looks, nm_sight_put_all, nm_sight_say, nm_sight_table, nm_sight_told, nm_sight_turned, nm_stand_begin, nm_stand_figures, nm_stand_great, nm_stand_kind, nm_stand_left, nm_stand_looks, nm_stand_numbers, nm_stand_rest, nm_stand_tried, nm_stand_wide, nm_table_ask_cell, nm_table_divided, nm_table_entered, nm_table_kind, nm_table_looked, nm_table_looks, nm_table_put_all, nm_table_say, nm_table_sight, nm_table_told, nm_table_turned, nm_told_ahead, nm_told_ended, nm_told_figures, nm_told_kind, nm_told_last, nm_told_looks, nm_told_sight, nm_told_table, nm_top_look, nm_tried_figures, nm_tried_great, nm_tried_kind, nm_tried_left, nm_tried_looks, nm_tried_numbers, nm_tried_stand, nm_tried_wide, nm_turned_kind, nm_turned_looks, nm_turned_sight, nm_turned_table, nm_under_base, nm_under_below, nm_under_held, nm_under_put, nm_under_upper, nm_upper_base, nm_upper_below, nm_upper_held, nm_upper_put, nm_upper_under, nm_wide_begin, nm_wide_figures, nm_wide_great, nm_wide_kind, nm_wide_left, nm_wide_looks, nm_wide_numbers, nm_wide_rest, nm_wide_stand, nm_wide_tried, nm_work_done, nm_work_kind, nm_work_looks, nm_work_rows, nm_work_seen, nm_work_works, nm_works_begin, nm_works_begin_rows, nm_works_deeds, nm_works_done, nm_works_entries, nm_works_go, nm_works_kind, nm_works_looked, nm_works_looks, nm_works_put, nm_works_rest, nm_works_row, nm_works_rows, nm_works_seen, nm_works_work, nm_works_wrong, nm_wrong_done, nm_wrong_kind, nm_wrong_looks, nm_wrong_rows, nm_wrong_seen, nm_wrong_works, sz1, sz2, sz3, sz4, sz5, sz6, sz7, sz8, sz9, sz10, sz11, true_and, ↓run_putP, ↓run_appP, ↓ev_plR, ↓ev_plIx, ↓ev_fz, ↓ev_rep, ↓run_fo, ↓run_wh, ↓ev_ok, ↓ev_opt, ↓ev_var, ↓ev_C, ↓ev_V, ↓ev_slot, ↓ev_op, ↓ev_un, ↓ev_B, ↓ev_not, ↓ev_notV, ↓ev_nil, ↓ev_cons, ↓ev_nilB, ↓ev_consB, ↓ev_tup, ↓ev_lst, ↓ev_B1, ↓ev_sl, ↓ev_P0, ↓ev_P1, ↓ev_Rg1, ↓ev_Rg2, ↓ev_LstRg, ↓ev_It, ↓ev_R1, ↓ev_R2, ↓xv_and, ↓xv_or, ↓xv_andV, ↓xv_orV, ↓xv_if, ↓xv_chain, ↓xv_call, ↓xv_call1, ↓xv_callT, hdC, br_t, br_f, so_some, so_none, so_mapN, so_mapC, lks_eq, rg_z, rg_s, lk0, lkS, st0, stS, entry0, entryS, rep0, repS, res_val, res_slot, so_add, so_sub, so_addN, so_subN, so_mul, so_div, so_mod, so_pow, so_shl, so_shr, so_and, so_or, so_xor, so_lt, so_le, so_gt, so_ge, so_eqI, so_neI, so_neg, so_isN, so_notN, non_n, non_i, non_t, non_l, non_b, non_s, so_ixL, so_ixT, at0, at1, at2, at3, ix0, ix1, ix2, ixN30, ixN31, ixN32, so_tru, so_iof, so_lof, so_itL, so_itT, so_r1, so_r2, so_abs, so_max, so_min, so_intB, so_intI, ii_i, ib_i, ib_b, ii_b, it_t, it_l, il_l, il_t, so_cat, so_inL, so_inT, so_ninL, so_ninT, so_maxI, so_maxT, so_rev, so_bits, so_en, wpD0, wpDC, bk0, bkC, oat0, oatS, so_catD, so_isBl, so_notBl, so_listOfL, so_listOfT, so_listL, so_listT, so_tupL, so_tupT, mx0, mxC, fz0, fzC, flO, flN, noL_i, noL_n, noL_b, noL_s, noL_t, noLs_n, noLs_c, Bool.and_true, Bool.and_self, getP0, setP0, so_ixP0, so_getP1, so_slL, so_lenL, so_lenT, so_gN, Int.cast_ofNat_Int, so_gT, so_gL, ↓ev_fzS, ↓ev_idx, ↓run_forZS, ↓ev_plIxT, scD_b, scD_i, scD_n, fzS0, fzSC, scOO, scON, notNon_t, so_gC, so_gE, Int.toNat_natCast, Int.one_mul, modC_eq, shrC_eq, powC_eq, fits0, fits1, fits2, fits3, fits4, fits5, fits6, fits7, fits8, fits9, fits10, fits11, fits12, fits13, fits14, fits15, fits16, rngC_eq, List.length_cons, List.length_nil, Nat.reduceAdd, Nat.zero_add, List.set_cons_zero, List.set_cons_succ, true_and, and_true, decide_true, decide_false, Bool.not_true, Bool.not_false, Int.reduceLT, Int.reduceSub, Int.reduceAdd, Int.reduceMul, Int.reduceNeg, Int.reduceDiv, Int.reduceMod, Int.reduceEq, Int.reduceLE, Int.reduceToNat, Int.reducePow, nab10, nab2, eq_self])
local macro_rules | `(tactic| walk_at "e") => `(tactic| (simp (config := { dsimp := false }) only [entryS, entry0, repS, rep0]; walk_at "z"))
theorem ints_item {ns : List Int} {lo hi : Option Int} {i : Nat} {d : D} (h : (cutD (ns.map PyData.int) lo hi ++ [.int 0])[i]? = some d) : ∃ z, d = .int z := by
  have := List.mem_of_getElem? h
  rw [List.mem_append] at this
  rcases this with h | h
  · obtain ⟨j, hj⟩ := List.getElem?_of_mem h
    obtain ⟨z, _, rfl⟩ := List.mem_map.mp (cut_mem hj)
    exact ⟨z, rfl⟩
  · exact ⟨0, by simpa using h⟩
theorem cut_len {l : List D} {lo hi : Option Int} : (cutD l lo hi).length ≤ l.length := by
  unfold cutD
  rw [List.length_take, List.length_drop]
  omega
theorem first_at (ns : List Int) : ∃ z, atI (ns.map PyData.int ++ [.int 0]) 0 = some (.int z) := by
  cases ns with
  | nil => exact ⟨0, at0⟩
  | cons a l => exact ⟨a, at0⟩
/-- three or more figures, few rows: few turns -/
theorem few_turns {m : Nat} {c : Nat} (hm : 1 ≤ m) (h : (2 * m + 1) ^ c ≤ 1500) : c ≤ 10 := by
  refine Classical.byContradiction fun z => ?_
  have h1 : 3 ^ 11 ≤ 3 ^ c := Nat.pow_le_pow_right (by omega) (by omega)
  have h2 : 3 ^ c ≤ (2 * m + 1) ^ c := Nat.pow_le_pow_left (by omega) c
  have h3 : (3 : Nat) ^ 11 = 177147 := by decide
  omega
theorem pow16_le {t c : Nat} (h : t ≤ c) : (16 : Nat) ^ t ≤ 16 ^ c := Nat.pow_le_pow_right (by omega) h
theorem law_true (ns : List Int) (hl : ns.length ≤ 63) : ∃ as, F_law [scr ns] = .ok (.bool true) as := by
  suffices h : Cl F_law [scr ns] fun d _ => d = .bool true by
    obtain ⟨d, as, e, rfl⟩ := h.out
    exact ⟨as, e⟩
  refine fn_cl rfl ?_
  unfold b_law scr
  walk_at "e"
  refine ⟨by rw [fits_eq, List.length_map]; omega, ?_⟩
  obtain ⟨z, hz⟩ := first_at ns
  rw [hz]
  walk_at "z"
  refine deck_cl (n := 0) (by omega) (by omega) fun e h => ?_
  walk_at "z"
  refine kind_cl h (by omega) fun b m e hk h => ?_
  obtain ⟨kb0, kb1, km0, km1⟩ := hk.b2
  walk_at "z"
  refine pick_cl h (by omega) divL fun mo e mo0 mo1 h => ?_
  walk_at "z"
  have em : m = (m.toNat : Int) := by omega
  have hm3 : 2 * m + 1 = ((2 * m.toNat + 1 : Nat) : Int) := by omega
  refine wh_by (fun s => ∃ c : Nat, s = [some (.list (ns.map .int)), some e, some (.tuple [.int b, .int m]), some (.int c), some (.int (((2 * m.toNat + 1) ^ c : Nat) : Int)), some (.int (1 + mo)), none, none, none, none, none, none, none] ∧ (2 * m.toNat + 1) ^ c ≤ 1500) (fun s => match look s 4 with | some (.int r) => (1500 - r).toNat | _ => 0) ⟨0, rfl, by simp⟩ ?_
  rintro _ ⟨c, rfl, hc⟩
  walk_at "z"
  refine ⟨mulC_of (m := 2) (n := 6) (by omega) (by omega), mulC_of (m := 12) (n := 6) (by omega) (by omega), ?_⟩
  have hp : (((2 * m.toNat + 1) ^ c : Nat) : Int) * (2 * m + 1) = (((2 * m.toNat + 1) ^ (c + 1) : Nat) : Int) := by
    rw [hm3, Nat.pow_succ, Int.natCast_mul]
  rw [hp]
  refine br_d (fun hle => ?_) fun hgt => ?_
  · walk_at "z"
    refine ⟨mulC_of (m := 2) (n := 6) (by omega) (by omega), mulC_of (m := 12) (n := 6) (by omega) (by omega), ⟨c + 1, by rw [hp]; rfl, by omega⟩, ?_⟩
    rw [hp]
    have h1 : (2 * m.toNat + 1) ^ c < (2 * m.toNat + 1) ^ (c + 1) := Nat.pow_lt_pow_right (by omega) (by omega)
    omega
  · walk_at "z"
    have hc10 := few_turns (m := m.toNat) (by omega) hc
    refine lcnt_cl hk hc10 hc fun l as hn hlg hne hkey => ?_
    walk_at "z"
    rw [so_kI]
    refine so_max (by simpa using hne) fun big hbig => ?_
    have hbb := hkey big hbig
    have hp16 := pow16_le hc10
    have e16 : (16 : Nat) ^ 10 = 1099511627776 := by decide
    walk_at "z"
    refine ⟨by omega, for_rg (fun j s => ∃ y8 y10, s = [some (.list (ns.map .int)), some e, some (.tuple [.int b, .int m]), some (.int c), some (.int (((2 * m.toNat + 1) ^ c : Nat) : Int)), some (.int (1 + mo)), some (.dict (dI l)), some (.int big), y8, none, y10, none, none]) ⟨_, _, rfl⟩ ?_ ?_⟩
    · rintro j _ hj ⟨y8, y10, rfl⟩
      walk_at "z"
      refine hm_cl hk (by omega) fun as => ?_
      walk_at "z"
      refine lwholeI_cl fun as => ?_
      walk_at "z"
      rw [dI_getD, hlg]
      walk_at "z"
      exact ⟨_, _, rfl⟩
    · rintro _ ⟨y8, y10, rfl⟩
      walk_at "z"
      have hcut := cut_len (l := ns.map PyData.int) (lo := some 1) (hi := some 7)
      rw [List.length_map] at hcut
      refine ⟨by rw [fits_eq]; omega, for_it (fun i s => ∃ n e' b' m' y3 y8 y9 y10 y11 y12, s = [some (.list (ns.map .int)), some e', some (.tuple [.int b', .int m']), y3, some (.int (((2 * m.toNat + 1) ^ c : Nat) : Int)), some (.int (1 + mo)), some (.dict (dI l)), some (.int big), y8, y9, y10, y11, y12] ∧ Knd b' m' ∧ Dk n e' ∧ n ≤ 1000) ⟨_, _, _, _, _, _, _, _, _, _, rfl, hk, h, by omega⟩ ?_ ?_⟩
      · rintro i d _ hd ⟨n, e', b', m', y3, y8, y9, y10, y11, y12, rfl, hk', h', hn'⟩
        obtain ⟨cell, rfl⟩ := ints_item hd
        walk_at "z"
        refine deck_cl (n := 50) (by omega) (by omega) fun e h => ?_
        walk_at "z"
        refine kind_cl h (by omega) fun b2 m2 e hk h => ?_
        obtain ⟨kb0, kb1, km0, km1⟩ := hk.b2
        walk_at "z"
        refine pick_cl h (by omega) divL fun v1 e a0 a1 h => ?_
        walk_at "z"
        refine pick_cl h (by omega) divL fun v2 e c0 c1 h => ?_
        walk_at "z"
        refine so_atP (Bt 1 60) c0 (by simpa using c1) ?_ ?_
        · simp only [List.mem_cons, List.not_mem_nil, or_false]
          rintro x (rfl | rfl)
          · exact ⟨_, rfl, by omega, by omega⟩
          · exact ⟨_, rfl, by omega, by omega⟩
        rintro _ ⟨cc, rfl, cc0, cc1⟩
        walk_at "z"
        refine great_cl h (by omega) (by omega) (by omega) fun g e g0 g1 h => ?_
        walk_at "z"
        refine pick_cl h (by omega) divL fun v3 e f0 f1 h => ?_
        walk_at "z"
        refine so_atP (Bt (-1) 1) f0 (by simpa using f1) ?_ ?_
        · simp only [List.mem_cons, List.not_mem_nil, or_false]
          rintro x (rfl | rfl)
          · exact ⟨_, rfl, by omega, by omega⟩
          · exact ⟨_, rfl, by omega, by omega⟩
        rintro _ ⟨sg, rfl, sg0, sg1⟩
        walk_at "z"
        refine ⟨mulC_of (m := 200) (n := 1) (abs_pow2 g0 g1) (by omega), ?_⟩
        refine pick_cl h (by omega) (divC_of (n := 8) (by omega) (by omega)) fun v4 e i0 i1 h => ?_
        walk_at "z"
        refine ⟨by omega, for_r0 (fun k s => ∃ z y12, s = [some (.list (ns.map .int)), some e, some (.tuple [.int b2, .int m2]), some (.int cc), some (.int (((2 * m.toNat + 1) ^ c : Nat) : Int)), some (.int (1 + mo)), some (.dict (dI l)), some (.int big), some (.int (g * sg)), some (.int cell), y10, some (.int z), y12] ∧ 0 < z ∧ z < 2 ^ (4 * k + 1)) ⟨1, _, rfl, by omega, by decide⟩ ?_ ?_⟩
        · rintro k _ hk2 ⟨z, y12, rfl, z0, z1⟩
          walk_at "z"
          refine ⟨mulC_of (m := 4 * k + 1) (n := 5) (abs_pow2 (by omega) z1) (by omega) (by omega), _, _, rfl, Int.mul_pos z0 (by omega), ?_⟩
          rw [show 4 * (k + 1) + 1 = 4 * k + 1 + 4 by omega, Int.pow_add]
          have e4 : (2 : Int) ^ 4 = 16 := by decide
          rw [e4]
          have := Int.mul_le_mul_of_nonneg_left kb1 (Int.le_of_lt z0)
          omega
        · rintro _ ⟨z, y12, rfl, z0, z1⟩
          walk_at "z"
          have zm := Int.emod_nonneg (g * sg) (by omega : z ≠ 0)
          refine ⟨z0, z0, ?_⟩
          refine pick_cl h (by omega) divL fun v5 e j0 j1 h => ?_
          walk_at "z"
          refine so_atP (fun d => ∃ v : Int, d = .int v) j0 (by simpa using j1) ?_ ?_
          · simp only [List.mem_cons, List.not_mem_nil, or_false]
            rintro x (rfl | rfl | rfl) <;> exact ⟨_, rfl⟩
          rintro _ ⟨x, rfl⟩
          walk_at "z"
          have ec : cc = ((cc.toNat : Nat) : Int) := by omega
          rw [ec]
          generalize cc.toNat = cn at *
          refine hm_cl hk (by omega) fun as => ?_
          walk_at "z"
          refine lwholeI_cl fun as => ?_
          walk_at "z"
          refine lsum_cl hk (by omega) (by omega) fun as => ?_
          walk_at "z"
          refine hm_cl hk (by omega) fun as => ?_
          walk_at "z"
          rw [show (0 - x) = -x by omega, cntN_neg (by omega)]
          walk_at "z"
          exact ⟨_, _, _, _, _, _, _, _, _, _, rfl, hk, h, by omega⟩
      · rintro _ ⟨n, e', b', m', y3, y8, y9, y10, y11, y12, rfl, hk', h', hn'⟩
        walk_at "z"
        have ek : (0 : Int) = ((0 : Nat) : Int) := rfl
        refine hm_cl (c := 0) hk' (by omega) fun as => ?_
        walk_at "z"
        have c1 : cntN b' m' 0 0 = 1 := rfl
        rw [c1]
        walk_at "z"
        refine pick_cl h' (by omega) divL fun v e v0 v1 h => ?_
        walk_at "z"
        refine hm_cl (c := 0) hk' (by omega) fun as => ?_
        walk_at "z"
        have c2 : cntN b' m' 0 (1 + v) = 0 := by
          show (if 1 + v = 0 then (1 : Int) else 0) = 0
          rw [if_neg (by omega)]
        rw [c2]
        walk_at "z"
end S
set_option Elab.async false
set_option linter.all false
set_option maxRecDepth 100000
set_option maxHeartbeats 1000000
namespace S
open PySem L2 Z
/-! ### the head -/
def d_law_deck : He.DefD := ⟨("_law_deck", none), "_law_deck", "_law_deck", defArgs s_law_deck, defBody s_law_deck, defScope s_law_deck, [], []⟩
def d_law_pick : He.DefD := ⟨("_law_pick", none), "_law_pick", "_law_pick", defArgs s_law_pick, defBody s_law_pick, defScope s_law_pick, [], []⟩
def d_law_kind : He.DefD := ⟨("_law_kind", none), "_law_kind", "_law_kind", defArgs s_law_kind, defBody s_law_kind, defScope s_law_kind, [], []⟩
def d_law_counts : He.DefD := ⟨("_law_counts", none), "_law_counts", "_law_counts", defArgs s_law_counts, defBody s_law_counts, defScope s_law_counts, [], []⟩
def d_how_many : He.DefD := ⟨("how_many", none), "how_many", "how_many", defArgs s_how_many, defBody s_how_many, defScope s_how_many, [], []⟩
def d_law_great : He.DefD := ⟨("_law_great", none), "_law_great", "_law_great", defArgs s_law_great, defBody s_law_great, defScope s_law_great, [], []⟩
def d_law_whole : He.DefD := ⟨("_law_whole", none), "_law_whole", "_law_whole", defArgs s_law_whole, defBody s_law_whole, defScope s_law_whole, [], []⟩
def d_law_sum : He.DefD := ⟨("_law_sum", none), "_law_sum", "_law_sum", defArgs s_law_sum, defBody s_law_sum, defScope s_law_sum, [], []⟩
def d_law : He.DefD := ⟨("law", none), "law", "law", defArgs s_law, defBody s_law, defScope s_law, [], []⟩
def fn : List He.DefD := [d_law_deck, d_law_pick, d_law_kind, d_law_counts, d_how_many, d_law_great, d_law_whole, d_law_sum, d_law]
def ex (K : PySem.W.Frag) : Bool := true
def fa : List He.Fa := [.glo "_law_deck", .glo "_law_pick", .glo "_law_kind", .glo "_law_counts", .glo "how_many", .glo "_law_great", .glo "_law_whole", .glo "_law_sum", .glo "law", .free "bool", .free "int", .free "isinstance", .free "max", .free "range"]
abbrev R : PySem.W.OpenRow := PySem.W.OpenLaw.row PySem.Challenge.rw_slackfigures_k02_rows_of_a_worth
abbrev hk : PySem.W.Hook := hookE 4 fa fn ex
def ob (s : PySem.W.SharedT) : He.AlD × Bool := obsE 4 fa fn ex (HandSHeadRun.getT s)
theorem ob_eq (s : PySem.W.SharedT) : ob s = hk.obs s.abs := obsE_eq (HandSHeadRun.getT_eq s)
def loose : List Str := (["how_many", "_law_deck", "_law_pick", "_law_kind", "_law_great", "_law_whole", "_law_counts", "_law_sum"] : List Str)
theorem run (w : World) : HandSHeadRun.RunEq R (PySem.W.view R.prog [10]) hk ob 4000 loose w := by
  intro os
  kernel_rfl
theorem facts {P : Program} {w : World} {K : PySem.W.Frag} {h : Heap} {mg : Str → Option Value} {f : Addr} (X : K.In h) (G : h.Ns mainGlobals mg) (hfa : mg ("law" : Str) = some (.ref f)) (c : He.SaysD fa fn K) (cx : ex K = true) :
    ∃ fd : FuncData, (∀ (s : Shared) (v : Value), BindsTo s fd ⟨[v], []⟩ [("script", v)]) ∧ ∀ base : Heap, K.In base → base.Ns mainGlobals mg → FnOk P w K mg base CX0 3 f fd ["script"] (spD K mg F_law [.sh] .sh) := by
  obtain ⟨fd_law_deck, F_law_deck'⟩ := c.def_ 0 (d := d_law_deck) rfl
  obtain ⟨fd_law_pick, F_law_pick'⟩ := c.def_ 1 (d := d_law_pick) rfl
  obtain ⟨fd_law_kind, F_law_kind'⟩ := c.def_ 2 (d := d_law_kind) rfl
  obtain ⟨fd_law_counts, F_law_counts'⟩ := c.def_ 3 (d := d_law_counts) rfl
  obtain ⟨fd_how_many, F_how_many'⟩ := c.def_ 4 (d := d_how_many) rfl
  obtain ⟨fd_law_great, F_law_great'⟩ := c.def_ 5 (d := d_law_great) rfl
  obtain ⟨fd_law_whole, F_law_whole'⟩ := c.def_ 6 (d := d_law_whole) rfl
  obtain ⟨fd_law_sum, F_law_sum'⟩ := c.def_ 7 (d := d_law_sum) rfl
  obtain ⟨fd_law, F_law'⟩ := c.def_ 8 (d := d_law) rfl
  have hB : ∀ x ∈ bts, mg x = none := by
    intro x hx
    simp only [bts, List.mem_cons, List.not_mem_nil, or_false] at hx
    rcases hx with rfl | rfl | rfl | rfl | rfl
    · exact He.free_ok X G (c.fact 9 (f := .free "bool") rfl)
    · exact He.free_ok X G (c.fact 10 (f := .free "int") rfl)
    · exact He.free_ok X G (c.fact 11 (f := .free "isinstance") rfl)
    · exact He.free_ok X G (c.fact 12 (f := .free "max") rfl)
    · exact He.free_ok X G (c.fact 13 (f := .free "range") rfl)
  have k_law_deck : ∀ base : Heap, Fk P w K mg base "_law_deck" 1 ["cell", "turn"] (spD K mg F_law_deck [.sh, .sh] (.ls .sh)) := fun base => ⟨_, _, ok_law_deck F_law_deck' hB, He.glo_ok X G (c.fact 0 (f := .glo "_law_deck") rfl), FunD.kp F_law_deck', FunD.bindsN F_law_deck' fun _ _ _ _ _ _ us hl => match us, hl with | [_, _], _ => rfl⟩
  have k_law_pick : ∀ base : Heap, Fk P w K mg base "_law_pick" 1 ["deck", "many"] (spD K mg F_law_pick [(.pm (.ls .sh)), .sh] .sh) := fun base => ⟨_, _, ok_law_pick F_law_pick' hB, He.glo_ok X G (c.fact 1 (f := .glo "_law_pick") rfl), FunD.kp F_law_pick', FunD.bindsN F_law_pick' fun _ _ _ _ _ _ us hl => match us, hl with | [_, _], _ => rfl⟩
  have k_law_kind : ∀ base : Heap, Fk P w K mg base "_law_kind" 2 ["deck"] (spD K mg F_law_kind [(.pm (.ls .sh))] .sh) := fun base => ⟨_, _, ok_law_kind F_law_kind' hB (k_law_pick base), He.glo_ok X G (c.fact 2 (f := .glo "_law_kind") rfl), FunD.kp F_law_kind', FunD.bindsN F_law_kind' fun _ _ _ _ _ _ us hl => match us, hl with | [_], _ => rfl⟩
  have k_law_counts : ∀ base : Heap, Fk P w K mg base "_law_counts" 1 ["kind", "count"] (spD K mg F_law_counts [.sh, .sh] (.dc 0)) := fun base => ⟨_, _, ok_law_counts F_law_counts' hB, He.glo_ok X G (c.fact 3 (f := .glo "_law_counts") rfl), FunD.kp F_law_counts', FunD.bindsN F_law_counts' fun _ _ _ _ _ _ us hl => match us, hl with | [_, _], _ => rfl⟩
  have k_how_many : ∀ base : Heap, Fk P w K mg base "how_many" 1 ["kind", "count", "number"] (spD K mg F_how_many [.sh, .sh, .sh] .sh) := fun base => ⟨_, _, ok_how_many F_how_many' hB, He.glo_ok X G (c.fact 4 (f := .glo "how_many") rfl), FunD.kp F_how_many', FunD.bindsN F_how_many' fun _ _ _ _ _ _ us hl => match us, hl with | [_, _, _], _ => rfl⟩
  have k_law_great : ∀ base : Heap, Fk P w K mg base "_law_great" 2 ["deck", "figures"] (spD K mg F_law_great [(.pm (.ls .sh)), .sh] .sh) := fun base => ⟨_, _, ok_law_great F_law_great' hB (k_law_pick base), He.glo_ok X G (c.fact 5 (f := .glo "_law_great") rfl), FunD.kp F_law_great', FunD.bindsN F_law_great' fun _ _ _ _ _ _ us hl => match us, hl with | [_, _], _ => rfl⟩
  have k_law_whole : ∀ base : Heap, Fk P w K mg base "_law_whole" 1 ["thing"] (spD K mg F_law_whole [.sh] .sh) := fun base => ⟨_, _, ok_law_whole F_law_whole' hB, He.glo_ok X G (c.fact 6 (f := .glo "_law_whole") rfl), FunD.kp F_law_whole', FunD.bindsN F_law_whole' fun _ _ _ _ _ _ us hl => match us, hl with | [_], _ => rfl⟩
  have k_law_sum : ∀ base : Heap, Fk P w K mg base "_law_sum" 2 ["kind", "count", "number"] (spD K mg F_law_sum [.sh, .sh, .sh] .sh) := fun base => ⟨_, _, ok_law_sum F_law_sum' hB (k_how_many base), He.glo_ok X G (c.fact 7 (f := .glo "_law_sum") rfl), FunD.kp F_law_sum', FunD.bindsN F_law_sum' fun _ _ _ _ _ _ us hl => match us, hl with | [_, _, _], _ => rfl⟩
  have e := hfa.symm.trans (He.glo_ok X G (c.fact 8 (f := .glo "law") rfl))
  cases e
  have b := FunD.bindsA (ps := ["script"]) F_law' fun _ _ _ _ _ _ us hl => match us, hl with | [_], _ => rfl
  exact ⟨fd_law, fun s v => b s [v] rfl, fun base _ _ => ok_law F_law' hB (k_law_deck base) (k_law_kind base) (k_law_pick base) (k_law_counts base) (k_how_many base) (k_law_whole base) (k_law_great base) (k_law_sum base)⟩
end S
open PySem PySem.W PySem.Calls PyProof.Rows
set_option maxRecDepth 100000 in
set_option maxHeartbeats 0 in
theorem PySem.Challenge.cw_slackfigures_k02_rows_of_a_worth_holds : PySem.Challenge.rw_slackfigures_k02_rows_of_a_worth.Holds := by
  w_on; o_law
  refine HandSHeadRun.head_any (r := OpenLaw.row PySem.Challenge.rw_slackfigures_k02_rows_of_a_worth) (q := view (OpenLaw.row PySem.Challenge.rw_slackfigures_k02_rows_of_a_worth).prog [10]) (H := S.hk) (ob := S.ob) (M := 4000) (loose := S.loose) (d := HandSHeadRun.topDef (OpenLaw.row PySem.Challenge.rw_slackfigures_k02_rows_of_a_worth).prog 10) (kwd := []) S.ob_eq
    (by kernel_rfl) (fun s => by kernel_rfl) S.run (by kernel_rfl) (by kernel_rfl) (by kernel_rfl) (by rfl) (by first | assumption | decide +kernel) (by decide +kernel) ⟨rfl, rfl, rfl, rfl, rfl, by decide +kernel⟩ ?hw ?hc
  case hw => w_witness2
  case hc =>
    refine L2.walk_ofE (l := PySem.Challenge.rw_slackfigures_k02_rows_of_a_worth) (n := 63) (k := 3) (x := "script") (CX := L2.CX0) rfl (by decide) (by kernel_rfl) ⟨rfl, by decide, by decide⟩ ?F (fun _ _ _ _ z => z)
    intro w mg fa h Y G hmg0
    obtain ⟨K, KX, c, cx⟩ := Y
    have hmg : mg ("law" : PySem.Str) = some (.ref fa) := by
      have e : (HandSHeadRun.topDef (OpenLaw.row PySem.Challenge.rw_slackfigures_k02_rows_of_a_worth).prog 10).name = ("law" : PySem.Str) := by kernel_rfl
      rw [← e]
      exact hmg0
    obtain ⟨fd, hb, hF⟩ := S.facts (P := (PySem.Challenge.rw_slackfigures_k02_rows_of_a_worth).prog) (w := w) KX G hmg c cx
    exact ⟨K, fd, Z.spD K mg S.F_law [.sh] .sh, KX, hb, fun H a ns hl _ hS => Z.law_sp S.law_true H a ns hl hS _, hF⟩
